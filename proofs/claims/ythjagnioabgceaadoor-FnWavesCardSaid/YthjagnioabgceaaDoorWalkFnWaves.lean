/- The walks: every function that FnWaves reaches computes the plain function that is typed beside it; no condition. -/
import Derived.Test.YthjagnioabgceaaDoorWalkFnWavesP0
import Derived.Test.YthjagnioabgceaaDoorDat
import Derived.Test.YthjagnioabgceaaDoorShelf
set_option linter.all false
set_option maxRecDepth 20000
namespace Go.Proofs.YthjagnioabgceaaDoor
open Go Go.RowKit Go.Eng
-- loop.example/g00861/spec.l01Number
def F_spec_l01Number : Nat → Int → Option ByteArray
  | 0 => fun _ => none
  | n + 1 => fun a0_n => (bif decide (a0_n < 0) then (Option.bind (F_spec_l01Number n (IntKind.wrap IntKind.i64 (0 - a0_n))) fun r2 => (Option.bind (catS ((ByteArray.mk #[45])) r2) fun t8 => (some t8))) else (bif decide (a0_n < 10) then (some ((strB ([IntKind.wrap IntKind.u8 (IntKind.wrap IntKind.i64 (48 + a0_n))])))) else (Option.bind (F_spec_l01Number n (IntKind.wrap IntKind.i64 (Int.tdiv a0_n 10))) fun r26 => (Option.bind (catS r26 ((strB ([IntKind.wrap IntKind.u8 (IntKind.wrap IntKind.i64 (48 + (Int.tmod a0_n 10)))])))) fun t45 => (some t45)))))
theorem F_spec_l01Number_z (a0_n : Int) : F_spec_l01Number 0 a0_n = none := rfl
theorem F_spec_l01Number_s (n : Nat) (a0_n : Int) : F_spec_l01Number (n + 1) a0_n = (bif decide (a0_n < 0) then (Option.bind (F_spec_l01Number n (IntKind.wrap IntKind.i64 (0 - a0_n))) fun r2 => (Option.bind (catS ((ByteArray.mk #[45])) r2) fun t8 => (some t8))) else (bif decide (a0_n < 10) then (some ((strB ([IntKind.wrap IntKind.u8 (IntKind.wrap IntKind.i64 (48 + a0_n))])))) else (Option.bind (F_spec_l01Number n (IntKind.wrap IntKind.i64 (Int.tdiv a0_n 10))) fun r26 => (Option.bind (catS r26 ((strB ([IntKind.wrap IntKind.u8 (IntKind.wrap IntKind.i64 (48 + (Int.tmod a0_n 10)))])))) fun t45 => (some t45))))) := rfl
set_option maxHeartbeats 40000000 in
theorem W_spec_l01Number {n : Nat} {a0_n : Int} {r : ByteArray} {w : World} (hF : F_spec_l01Number n a0_n = some r) :
    Calls Tryd.prog 78 [.int .i64 a0_n].toArray w (Ret fun u w2 => u = .string r ∧ Ext w w2) := by
  cases n with
  | zero => rw [F_spec_l01Number_z] at hF; cases hF
  | succ n =>
    refine calls_of Tryd.func78 rfl Tryd.ntmps78 ?_
    have he0 : Ext w w := Ext.refl w
    rw [F_spec_l01Number_s] at hF
    refine WC.seq ?_
    refine WC.region ?_
    refine TL.yld rfl rfl (yld_assign rfl rfl) ?_
    refine TL.done ?_
    refine NX.seq ?_
    refine WC.seq ?_
    refine WC.seq ?_
    refine WC.region ?_
    refine TL.yld rfl rfl (yld_move rfl rfl) ?_
    refine TL.yld rfl rfl (yld_lss rfl rfl rfl) ?_
    refine TL.done ?_
    refine NX.seq ?_
    refine WC.cond rfl ?_ ?_
    · intro hc1
      replace hF := bif_t hc1 hF
      refine WC.seq ?_
      refine WC.region ?_
      refine TL.yld rfl rfl (yld_move rfl rfl) ?_
      refine TL.yld rfl rfl (yld_neg rfl rfl) ?_
      obtain ⟨r2, hr3, hF⟩ := bsome hF
      refine TL.eff rfl rfl (eff_call rfl gf_78 rfl (W_spec_l01Number hr3)) ?_
      rintro _ w4 ⟨rfl, hx5⟩
      have he6 : Ext w w4 := Ext.trans he0 hx5
      have hz7 := (hx5).size
      obtain ⟨t8, ht9, hF⟩ := bsome hF
      refine TL.yld rfl rfl (yld_cat rfl rfl rfl ht9) ?_
      refine TL.yld rfl rfl (yld_assign rfl rfl) ?_
      refine TL.done ?_
      refine NX.seq ?_
      refine WC.ret' ?_
      refine NX.then_r ?_
      obtain rfl := Option.some.inj hF
      exact NX.end (rs := [.tmp 2]) (vs := [.string t8]) rfl ⟨rfl, trivial⟩ ⟨_, rfl, rfl, he6⟩
    · intro hc10
      replace hF := bif_f hc10 hF
      refine WC.skip' ?_
      refine NX.seq ?_
      refine WC.seq ?_
      refine WC.seq ?_
      refine WC.region ?_
      refine TL.yld rfl rfl (yld_move rfl rfl) ?_
      refine TL.yld rfl rfl (yld_lss rfl rfl rfl) ?_
      refine TL.done ?_
      refine NX.seq ?_
      refine WC.cond rfl ?_ ?_
      · intro hc11
        replace hF := bif_t hc11 hF
        refine WC.seq ?_
        refine WC.region ?_
        refine TL.yld rfl rfl (yld_move rfl rfl) ?_
        refine TL.yld rfl rfl (yld_add rfl rfl rfl) ?_
        refine TL.yld rfl rfl (yld_conv rfl Tryd.underlying2 Tryd.underlying5 rfl) ?_
        refine TL.eff rfl rfl (eff_buildSlice (c := (cInt .u8)) (xs := [IntKind.wrap IntKind.u8 (IntKind.wrap IntKind.i64 (48 + a0_n))]) (S := (Iv 0 0)) (uss := [(0, [.int .u8 (IntKind.wrap IntKind.u8 (IntKind.wrap IntKind.i64 (48 + a0_n)))])]) (out := [.int .u8 (IntKind.wrap IntKind.u8 (IntKind.wrap IntKind.i64 (48 + a0_n)))]) rfl Tryd.underlying32 in_5 rfl rfl (fillL_all [[.int .u8 (IntKind.wrap IntKind.u8 (IntKind.wrap IntKind.i64 (48 + a0_n)))]] rfl rfl rfl) rfl rfl rfl rfl (one_rep (uss := [[.int .u8 (IntKind.wrap IntKind.u8 (IntKind.wrap IntKind.i64 (48 + a0_n)))]]) (show reps _ _ _ _ _ from ⟨rfl, trivial⟩) rfl) (fun k h => by have := h.2; omega) rfl) ?_
        rintro v12 w13 ⟨g14, hv15, hg16, hz17, hx18, hs19⟩
        have he20 : Ext w w13 := Ext.trans he0 hx18
        have hz21 := (hx18).size
        have hlo22 : w.heap.size ≤ g14 := by rw [hg16]; exact (he0).size
        have hbd23 := bd_of hv15
        clear hv15
        refine TL.yld rfl rfl (yld_bytes rfl Tryd.underlying32 Tryd.underlying5 Tryd.underlying9 rfl (ownR.slf hs19 (Nat.le_refl _) (Nat.le_refl _))) ?_
        refine TL.yld rfl rfl (yld_assign rfl rfl) ?_
        refine TL.done ?_
        refine NX.seq ?_
        refine WC.ret' ?_
        refine NX.then_r ?_
        obtain rfl := Option.some.inj hF
        exact NX.end (rs := [.tmp 2]) (vs := [.string ((strB ([IntKind.wrap IntKind.u8 (IntKind.wrap IntKind.i64 (48 + a0_n))])))]) rfl ⟨rfl, trivial⟩ ⟨_, rfl, rfl, he20⟩
      · intro hc25
        replace hF := bif_f hc25 hF
        refine WC.skip' ?_
        refine NX.seq ?_
        refine WC.seq ?_
        obtain ⟨r26, hr27, hF⟩ := bsome hF
        obtain ⟨t45, ht46, hF⟩ := bsome hF
        refine WC.join (fun a wl => Kn 26 [(2, .string t45)] a ∧ Ext w wl ∧ w.heap.size ≤ wl.heap.size) ?_ ?_
        ·
          refine WC.held 9 Tryd.hm fun w50 hx51 => ?_
          have he52 : Ext w w50 := Ext.trans he0 hx51
          have hz53 := (hx51).size
          refine HL.yld 0 (by kernel_rfl) rfl (by kernel_rfl) rfl rfl (yld_move rfl rfl) ?_
          refine HL.yld 1 (by kernel_rfl) rfl (by kernel_rfl) rfl rfl (yld_quo rfl rfl rfl (by decide)) ?_
          refine HL.yld 3 (by kernel_rfl) rfl (by kernel_rfl) rfl rfl (yld_move rfl rfl) ?_
          refine HL.yld 4 (by kernel_rfl) rfl (by kernel_rfl) rfl rfl (yld_rem rfl rfl rfl (by decide)) ?_
          refine HL.yld 5 (by kernel_rfl) rfl (by kernel_rfl) rfl rfl (yld_add rfl rfl rfl) ?_
          refine HL.yld 6 (by kernel_rfl) rfl (by kernel_rfl) rfl rfl (yld_conv rfl Tryd.underlying2 Tryd.underlying5 rfl) ?_
          refine HL.many (js := [2, 7]) (by kernel_rfl) rfl (all_two ?_ ?_)
          ·
            refine HB.eff 2 rfl rfl (by kernel_rfl) rfl rfl (eff_call rfl gf_78 rfl (W_spec_l01Number hr27)) ?_
            rintro _ w54 ⟨rfl, hx55⟩
            have hbs56 : Ext w50 w54 := Ext.trans (Ext.refl w50) hx55
            have he57 : Ext w w54 := Ext.trans he52 hx55
            have hz58 := (hx55).size
            refine ⟨hbs56, ?_⟩
            refine HL.eff 7 rfl rfl (by kernel_rfl) rfl rfl (eff_buildSlice (c := (cInt .u8)) (xs := [IntKind.wrap IntKind.u8 (IntKind.wrap IntKind.i64 (48 + (Int.tmod a0_n 10)))]) (S := (Iv 0 0)) (uss := [(0, [.int .u8 (IntKind.wrap IntKind.u8 (IntKind.wrap IntKind.i64 (48 + (Int.tmod a0_n 10))))])]) (out := [.int .u8 (IntKind.wrap IntKind.u8 (IntKind.wrap IntKind.i64 (48 + (Int.tmod a0_n 10))))]) rfl Tryd.underlying32 in_5 rfl rfl (fillL_all [[.int .u8 (IntKind.wrap IntKind.u8 (IntKind.wrap IntKind.i64 (48 + (Int.tmod a0_n 10))))]] rfl rfl rfl) rfl rfl rfl rfl (one_rep (uss := [[.int .u8 (IntKind.wrap IntKind.u8 (IntKind.wrap IntKind.i64 (48 + (Int.tmod a0_n 10))))]]) (show reps _ _ _ _ _ from ⟨rfl, trivial⟩) rfl) (fun k h => by have := h.2; omega) rfl) ?_
            rintro v59 w60 ⟨g61, hv62, hg63, hz64, hx65, hs66⟩
            have hbs67 : Ext w50 w60 := Ext.trans hbs56 hx65
            have he68 : Ext w w60 := Ext.trans he57 hx65
            have hz69 := (hx65).size
            have hlo70 : w.heap.size ≤ g61 := by rw [hg63]; exact (he57).size
            have hbd71 := bd_of hv62
            clear hv62
            refine ⟨hbs67, ?_⟩
            refine HL.shrink ?_
            refine HL.yld 8 (by kernel_rfl) rfl (by kernel_rfl) rfl rfl (yld_bytes rfl Tryd.underlying32 Tryd.underlying5 Tryd.underlying9 rfl (ownR.slf hs66 (Nat.le_refl _) (Nat.le_refl _))) ?_
            refine HL.tail rfl (by kernel_rfl) rfl ?_
            refine TL.yld rfl rfl (yld_cat rfl rfl rfl ht46) ?_
            refine TL.yld rfl rfl (yld_assign rfl rfl) ?_
            refine TL.noPan (l := []) ?_
            exact fun a hK => ⟨rfl, hK.weaken ⟨rfl, trivial⟩, he68, (by omega)⟩
          ·
            refine HB.eff 7 rfl rfl (by kernel_rfl) rfl rfl (eff_buildSlice (c := (cInt .u8)) (xs := [IntKind.wrap IntKind.u8 (IntKind.wrap IntKind.i64 (48 + (Int.tmod a0_n 10)))]) (S := (Iv 0 0)) (uss := [(0, [.int .u8 (IntKind.wrap IntKind.u8 (IntKind.wrap IntKind.i64 (48 + (Int.tmod a0_n 10))))])]) (out := [.int .u8 (IntKind.wrap IntKind.u8 (IntKind.wrap IntKind.i64 (48 + (Int.tmod a0_n 10))))]) rfl Tryd.underlying32 in_5 rfl rfl (fillL_all [[.int .u8 (IntKind.wrap IntKind.u8 (IntKind.wrap IntKind.i64 (48 + (Int.tmod a0_n 10))))]] rfl rfl rfl) rfl rfl rfl rfl (one_rep (uss := [[.int .u8 (IntKind.wrap IntKind.u8 (IntKind.wrap IntKind.i64 (48 + (Int.tmod a0_n 10))))]]) (show reps _ _ _ _ _ from ⟨rfl, trivial⟩) rfl) (fun k h => by have := h.2; omega) rfl) ?_
            rintro v73 w74 ⟨g75, hv76, hg77, hz78, hx79, hs80⟩
            have hbs81 : Ext w50 w74 := Ext.trans (Ext.refl w50) hx79
            have he82 : Ext w w74 := Ext.trans he52 hx79
            have hz83 := (hx79).size
            have hlo84 : w.heap.size ≤ g75 := by rw [hg77]; exact (he52).size
            have hbd85 := bd_of hv76
            clear hv76
            refine ⟨hbs81, ?_⟩
            refine HL.shrink ?_
            refine HL.yld 8 (by kernel_rfl) rfl (by kernel_rfl) rfl rfl (yld_bytes rfl Tryd.underlying32 Tryd.underlying5 Tryd.underlying9 rfl (ownR.slf hs80 (Nat.le_refl _) (Nat.le_refl _))) ?_
            refine HL.eff 2 rfl rfl (by kernel_rfl) rfl rfl (eff_call rfl gf_78 rfl (W_spec_l01Number hr27)) ?_
            rintro _ w87 ⟨rfl, hx88⟩
            have hbs89 : Ext w74 w87 := Ext.trans (Ext.refl w74) hx88
            have he90 : Ext w w87 := Ext.trans he82 hx88
            have hs80 := ownR.ext hs80 hx88
            have hz91 := (hx88).size
            refine ⟨hbs89, ?_⟩
            refine HL.tail rfl (by kernel_rfl) rfl ?_
            refine TL.yld rfl rfl (yld_cat rfl rfl rfl ht46) ?_
            refine TL.yld rfl rfl (yld_assign rfl rfl) ?_
            refine TL.noPan (l := []) ?_
            exact fun a hK => ⟨rfl, hK.weaken ⟨rfl, trivial⟩, he90, (by omega)⟩
        ·
          rintro a w47 ⟨hK, he48, hz49⟩
          revert hK; revert a; refine (?_ : NX _ _ _ _ _)
          refine NX.seq ?_
          refine WC.ret' ?_
          obtain rfl := Option.some.inj hF
          exact NX.end (rs := [.tmp 2]) (vs := [.string t45]) rfl ⟨rfl, trivial⟩ ⟨_, rfl, rfl, he48⟩
termination_by n

-- loop.example/g00861/spec.l14Draw
def F_spec_l14Draw_L2 (n : Nat) (k3 : (List S_Clock) → Option ((List S_Clock) × S_l01Source)) : Nat → (List S_Clock) → Option ((List S_Clock) × S_l01Source)
  | 0 => fun _ => none
  | m + 1 => fun l181 => (bif decide ((l181.length : Int) < 7) then (Option.bind (getI l181 0) fun x189 => (Option.bind (F_spec_l01Number n ((l181.length : Int))) fun r208 => (Option.bind (catS ((ByteArray.mk #[120])) r208) fun t214 => (Option.bind (appN l181 ([(S_Clock.mk t214 x189.Place x189.Period x189.RiseAt x189.FallAt x189.Source x189.Divide x189.Invert x189.EarlyLatency x189.LateLatency x189.Uncertainty)]) 96) fun z234 => (F_spec_l14Draw_L2 n k3 m z234))))) else (k3 l181))
theorem F_spec_l14Draw_L2_z (n : Nat) (k3 : (List S_Clock) → Option ((List S_Clock) × S_l01Source)) (l181 : List S_Clock) : F_spec_l14Draw_L2 n k3 0 l181 = none := rfl
theorem F_spec_l14Draw_L2_s (m : Nat) (n : Nat) (k3 : (List S_Clock) → Option ((List S_Clock) × S_l01Source)) (l181 : List S_Clock) : F_spec_l14Draw_L2 n k3 (m + 1) l181 = (bif decide ((l181.length : Int) < 7) then (Option.bind (getI l181 0) fun x189 => (Option.bind (F_spec_l01Number n ((l181.length : Int))) fun r208 => (Option.bind (catS ((ByteArray.mk #[120])) r208) fun t214 => (Option.bind (appN l181 ([(S_Clock.mk t214 x189.Place x189.Period x189.RiseAt x189.FallAt x189.Source x189.Divide x189.Invert x189.EarlyLatency x189.LateLatency x189.Uncertainty)]) 96) fun z234 => (F_spec_l14Draw_L2 n k3 m z234))))) else (k3 l181)) := rfl

def F_spec_l14Draw_L1 (n : Nat) (a0_s : S_l01Source) (k0 : (List S_Clock) → Int → Int → Int → Option ((List S_Clock) × S_l01Source)) : Nat → (List S_Clock) → Int → Int → Int → Option ((List S_Clock) × S_l01Source)
  | 0 => fun _ _ _ _ => none
  | m + 1 => fun l31 i35 i37 i38 => (bif decide (i35 > 0) then (Option.bind (F_spec_l01Next n ((S_l01Source.mk a0_s.code_ i37 i38)) 30) fun r42 => (Option.bind (F_spec_l01Number n ((l31.length : Int))) fun r50 => (Option.bind (catS ((ByteArray.mk #[99])) r50) fun t56 => (Option.bind (F_spec_l01Next n ((S_l01Source.mk a0_s.code_ r42.2.at_ r42.2.seed_)) 20) fun r58 => (Option.bind (F_spec_l01Next n ((S_l01Source.mk a0_s.code_ r58.2.at_ r58.2.seed_)) 20) fun r66 => (Option.bind (F_spec_l01Next n ((S_l01Source.mk a0_s.code_ r66.2.at_ r66.2.seed_)) 8) fun r74 => (Option.bind (bif (((l31.length : Int)) == 0) then (some (true, r74.2.at_, r74.2.seed_)) else (Option.bind (F_spec_l01Next n ((S_l01Source.mk a0_s.code_ r74.2.at_ r74.2.seed_)) 3) fun r94 => (some ((r94.1 == 0), r94.2.at_, r94.2.seed_)))) fun c94 => (bif c94.1 then (Option.bind (F_spec_l01Next n ((S_l01Source.mk a0_s.code_ c94.2.1 c94.2.2)) 7) fun r125 => (Option.bind (getI ([10, 12, 20, 30, 100, 7, 2]) r125.1) fun x134 => (Option.bind (F_spec_l01Next n ((S_l01Source.mk a0_s.code_ r125.2.at_ r125.2.seed_)) x134) fun r146 => (Option.bind (F_spec_l01Next n ((S_l01Source.mk a0_s.code_ r146.2.at_ r146.2.seed_)) (IntKind.wrap IntKind.i64 (x134 - 1))) fun r160 => (bif (x134 == 0) then none else (Option.bind (appN l31 ([(S_Clock.mk t56 r58.1 x134 r146.1 (Int.tmod (IntKind.wrap IntKind.i64 ((IntKind.wrap IntKind.i64 (r146.1 + 1)) + r160.1)) x134) (-1) 1 false r42.1 (IntKind.wrap IntKind.i64 (r42.1 + r66.1)) r74.1)]) 96) fun z205 => (F_spec_l14Draw_L1 n a0_s k0 m z205 (IntKind.wrap IntKind.i64 (i35 - 1)) r160.2.at_ r160.2.seed_))))))) else (Option.bind (F_spec_l01Next n ((S_l01Source.mk a0_s.code_ c94.2.1 c94.2.2)) ((l31.length : Int))) fun r223 => (Option.bind (F_spec_l01Next n ((S_l01Source.mk a0_s.code_ r223.2.at_ r223.2.seed_)) 4) fun r236 => (Option.bind (F_spec_l01Next n ((S_l01Source.mk a0_s.code_ r236.2.at_ r236.2.seed_)) 3) fun r249 => (Option.bind (appN l31 ([(S_Clock.mk t56 r58.1 0 0 0 r223.1 (IntKind.wrap IntKind.i64 (1 + r236.1)) ((r249.1 == 0)) r42.1 (IntKind.wrap IntKind.i64 (r42.1 + r66.1)) r74.1)]) 96) fun z275 => (F_spec_l14Draw_L1 n a0_s k0 m z275 (IntKind.wrap IntKind.i64 (i35 - 1)) r249.2.at_ r249.2.seed_))))))))))))) else (k0 l31 i35 i37 i38))
theorem F_spec_l14Draw_L1_z (n : Nat) (a0_s : S_l01Source) (k0 : (List S_Clock) → Int → Int → Int → Option ((List S_Clock) × S_l01Source)) (l31 : List S_Clock) (i35 : Int) (i37 : Int) (i38 : Int) : F_spec_l14Draw_L1 n a0_s k0 0 l31 i35 i37 i38 = none := rfl
theorem F_spec_l14Draw_L1_s (m : Nat) (n : Nat) (a0_s : S_l01Source) (k0 : (List S_Clock) → Int → Int → Int → Option ((List S_Clock) × S_l01Source)) (l31 : List S_Clock) (i35 : Int) (i37 : Int) (i38 : Int) : F_spec_l14Draw_L1 n a0_s k0 (m + 1) l31 i35 i37 i38 = (bif decide (i35 > 0) then (Option.bind (F_spec_l01Next n ((S_l01Source.mk a0_s.code_ i37 i38)) 30) fun r42 => (Option.bind (F_spec_l01Number n ((l31.length : Int))) fun r50 => (Option.bind (catS ((ByteArray.mk #[99])) r50) fun t56 => (Option.bind (F_spec_l01Next n ((S_l01Source.mk a0_s.code_ r42.2.at_ r42.2.seed_)) 20) fun r58 => (Option.bind (F_spec_l01Next n ((S_l01Source.mk a0_s.code_ r58.2.at_ r58.2.seed_)) 20) fun r66 => (Option.bind (F_spec_l01Next n ((S_l01Source.mk a0_s.code_ r66.2.at_ r66.2.seed_)) 8) fun r74 => (Option.bind (bif (((l31.length : Int)) == 0) then (some (true, r74.2.at_, r74.2.seed_)) else (Option.bind (F_spec_l01Next n ((S_l01Source.mk a0_s.code_ r74.2.at_ r74.2.seed_)) 3) fun r94 => (some ((r94.1 == 0), r94.2.at_, r94.2.seed_)))) fun c94 => (bif c94.1 then (Option.bind (F_spec_l01Next n ((S_l01Source.mk a0_s.code_ c94.2.1 c94.2.2)) 7) fun r125 => (Option.bind (getI ([10, 12, 20, 30, 100, 7, 2]) r125.1) fun x134 => (Option.bind (F_spec_l01Next n ((S_l01Source.mk a0_s.code_ r125.2.at_ r125.2.seed_)) x134) fun r146 => (Option.bind (F_spec_l01Next n ((S_l01Source.mk a0_s.code_ r146.2.at_ r146.2.seed_)) (IntKind.wrap IntKind.i64 (x134 - 1))) fun r160 => (bif (x134 == 0) then none else (Option.bind (appN l31 ([(S_Clock.mk t56 r58.1 x134 r146.1 (Int.tmod (IntKind.wrap IntKind.i64 ((IntKind.wrap IntKind.i64 (r146.1 + 1)) + r160.1)) x134) (-1) 1 false r42.1 (IntKind.wrap IntKind.i64 (r42.1 + r66.1)) r74.1)]) 96) fun z205 => (F_spec_l14Draw_L1 n a0_s k0 m z205 (IntKind.wrap IntKind.i64 (i35 - 1)) r160.2.at_ r160.2.seed_))))))) else (Option.bind (F_spec_l01Next n ((S_l01Source.mk a0_s.code_ c94.2.1 c94.2.2)) ((l31.length : Int))) fun r223 => (Option.bind (F_spec_l01Next n ((S_l01Source.mk a0_s.code_ r223.2.at_ r223.2.seed_)) 4) fun r236 => (Option.bind (F_spec_l01Next n ((S_l01Source.mk a0_s.code_ r236.2.at_ r236.2.seed_)) 3) fun r249 => (Option.bind (appN l31 ([(S_Clock.mk t56 r58.1 0 0 0 r223.1 (IntKind.wrap IntKind.i64 (1 + r236.1)) ((r249.1 == 0)) r42.1 (IntKind.wrap IntKind.i64 (r42.1 + r66.1)) r74.1)]) 96) fun z275 => (F_spec_l14Draw_L1 n a0_s k0 m z275 (IntKind.wrap IntKind.i64 (i35 - 1)) r249.2.at_ r249.2.seed_))))))))))))) else (k0 l31 i35 i37 i38)) := rfl

def F_spec_l14Draw (n : Nat) (a0_s : S_l01Source) : Option ((List S_Clock) × S_l01Source) := (Option.bind (F_spec_l01Next n a0_s 5) fun r21 => (F_spec_l14Draw_L1 n a0_s (fun l31 i35 i37 i38 => (Option.bind (F_spec_l01Next n ((S_l01Source.mk a0_s.code_ i37 i38)) ((l31.length : Int))) fun r41 => (Option.bind (F_spec_l01Next n ((S_l01Source.mk a0_s.code_ r41.2.at_ r41.2.seed_)) 30) fun r49 => (bif (r49.1 == 0) then (Option.bind (F_spec_l01Next n ((S_l01Source.mk a0_s.code_ r49.2.at_ r49.2.seed_)) 2) fun r58 => (Option.bind (getI l31 r41.1) fun x66 => (some ((l31.set (r41.1).toNat ((S_Clock.mk x66.Name x66.Place x66.Period x66.RiseAt x66.FallAt x66.Source (IntKind.wrap IntKind.i64 (9 * r58.1)) x66.Invert x66.EarlyLatency x66.LateLatency x66.Uncertainty))), (S_l01Source.mk a0_s.code_ r58.2.at_ r58.2.seed_))))) else (bif (r49.1 == 1) then (Option.bind (getI l31 r41.1) fun x80 => (Option.bind (getI l31 r41.1) fun x87 => (some ((l31.set (r41.1).toNat ((S_Clock.mk x87.Name x87.Place x87.Period x87.RiseAt x80.RiseAt x87.Source x87.Divide x87.Invert x87.EarlyLatency x87.LateLatency x87.Uncertainty))), (S_l01Source.mk a0_s.code_ r49.2.at_ r49.2.seed_))))) else (bif (r49.1 == 2) then (Option.bind (getI l31 0) fun x101 => (Option.bind (getI l31 r41.1) fun x108 => (some ((l31.set (r41.1).toNat ((S_Clock.mk x101.Name x108.Place x108.Period x108.RiseAt x108.FallAt x108.Source x108.Divide x108.Invert x108.EarlyLatency x108.LateLatency x108.Uncertainty))), (S_l01Source.mk a0_s.code_ r49.2.at_ r49.2.seed_))))) else (bif (r49.1 == 3) then (Option.bind (getI l31 r41.1) fun x122 => (some ((l31.set (r41.1).toNat ((S_Clock.mk x122.Name x122.Place x122.Period x122.RiseAt x122.FallAt r41.1 x122.Divide x122.Invert x122.EarlyLatency x122.LateLatency x122.Uncertainty))), (S_l01Source.mk a0_s.code_ r49.2.at_ r49.2.seed_)))) else (bif (r49.1 == 4) then (Option.bind (getI l31 r41.1) fun x136 => (Option.bind (getI l31 r41.1) fun x143 => (some ((l31.set (r41.1).toNat ((S_Clock.mk x143.Name x143.Place x143.Period x143.RiseAt x143.FallAt x143.Source x143.Divide x143.Invert x143.EarlyLatency (IntKind.wrap IntKind.i64 (x136.EarlyLatency - 1)) x143.Uncertainty))), (S_l01Source.mk a0_s.code_ r49.2.at_ r49.2.seed_))))) else (bif (r49.1 == 5) then (Option.bind (F_spec_l01Next n ((S_l01Source.mk a0_s.code_ r49.2.at_ r49.2.seed_)) 2) fun r157 => (Option.bind (getI l31 0) fun x165 => (some ((l31.set (0 : Int).toNat ((S_Clock.mk x165.Name x165.Place (IntKind.wrap IntKind.i64 (100000 + r157.1)) x165.RiseAt x165.FallAt x165.Source x165.Divide x165.Invert x165.EarlyLatency x165.LateLatency x165.Uncertainty))), (S_l01Source.mk a0_s.code_ r157.2.at_ r157.2.seed_))))) else (bif (r49.1 == 6) then (F_spec_l14Draw_L2 n (fun l181 => (some (l181, (S_l01Source.mk a0_s.code_ r49.2.at_ r49.2.seed_)))) n l31) else (some (l31, (S_l01Source.mk a0_s.code_ r49.2.at_ r49.2.seed_))))))))))))) n (([] : List S_Clock)) (IntKind.wrap IntKind.i64 (1 + r21.1)) r21.2.at_ r21.2.seed_))
set_option maxHeartbeats 40000000 in
theorem W_spec_l14Draw {n : Nat} {a0_s : S_l01Source} {r : (List S_Clock) × S_l01Source} {w : World} {v1 : Value} {lo3 hi4 : Nat} {b0_ : Nat} (hF : F_spec_l14Draw n a0_s = some r) (hb5 : Box w b0_ [v1, .int .i64 a0_s.at_, .int .i64 a0_s.seed_] 90) (ha2 : slRep (cInt .u8) w (Iv lo3 hi4) a0_s.code_ v1) (hh6 : hi4 ≤ w.heap.size) (hh7 : b0_ < lo3 ∨ hi4 ≤ b0_) :
    Calls Tryd.prog 57 [.pointer (some ⟨b0_, 0, none⟩)].toArray w (Ret fun u w2 => ∃ v0_0, u = v0_0 ∧ ownR C_Clock w2 w.heap.size (Iv 0 0) 45 r.1 v0_0 ∧ Box w2 b0_ [v1, .int .i64 r.2.at_, .int .i64 r.2.seed_] 90 ∧ But (pB b0_) w w2) := by
  refine calls_of Tryd.func57 rfl Tryd.ntmps57 ?_
  have he0 : But (pB b0_) w w := But.refl _ w
  have := Box.lt hb5
  unfold F_spec_l14Draw at hF
  refine WC.seq ?_
  refine WC.region ?_
  refine TL.yld rfl rfl (yld_assign rfl rfl) ?_
  refine TL.done ?_
  refine NX.seq ?_
  refine WC.seq ?_
  refine WC.region ?_
  refine TL.eff rfl rfl (eff_buildSlice (c := C_Clock) (xs := ([] : List S_Clock)) (S := (Iv 0 0)) (uss := []) (out := []) rfl Tryd.underlying25 in_45 rfl rfl (fillL_all [] rfl rfl rfl) rfl rfl rfl rfl (one_rep (uss := []) (show reps _ _ _ _ _ from trivial) rfl) (fun k h => by have := h.2; omega) rfl) ?_
  rintro v8 w9 ⟨g10, hv11, hg12, hz13, hx14, hs15⟩
  have he16 : But (pB b0_) w w9 := But.ext he0 hx14
  have hb5 := Box.ext hb5 hx14
  have ha2 := slRep.old ha2 hx14 (by omega)
  have hz17 := (hx14).size
  have hlo18 : w.heap.size ≤ g10 := by rw [hg12]; exact (he0).size
  have hbd19 := bd_of hv11
  clear hv11
  refine TL.yld rfl rfl (yld_assign rfl rfl) ?_
  refine TL.done ?_
  refine NX.seq ?_
  refine WC.seq ?_
  refine WC.seq ?_
  refine WC.region ?_
  refine TL.yld rfl rfl (yld_move rfl rfl) ?_
  obtain ⟨r21, hr22, hF⟩ := bsome hF
  refine TL.eff rfl rfl (eff_call rfl gf_69 rfl (W_spec_l01Next hr22 hb5 ha2 (by omega) (by omega))) ?_
  rintro _ w23 ⟨rfl, hb25, hx24⟩
  have he26 : But (pB b0_) w w23 := But.but he16 hx24 (all_pB (Or.inl rfl))
  have ha2 := slRep.but ha2 hx24 (all_pB (by omega)) (by omega)
  have hp27 : ∀ g, v8.ownBlock = some g → g ≠ b0_ := (fun g hg => by have := hbd19 g hg; omega)
  have hs15 := ownR.butF hs15 hx24 (all_pB (fun g hg e => hp27 g hg e.symm))
  have hz28 := (hx24).size
  refine TL.yld rfl rfl (yld_add rfl rfl rfl) ?_
  refine TL.yld rfl rfl (yld_assign rfl rfl) ?_
  refine TL.done ?_
  refine NX.seq ?_
  refine WC.block ?_
  refine WC.loop (fun m41 a wl => ∃ (l31 : List S_Clock) (v32 : Value) (i35 : Int) (i37 : Int) (i38 : Int), Kn 163 [(0, .pointer (some ⟨b0_, 0, none⟩)), (3, v32), (4, .int .i64 i35)] a ∧ But (pB b0_) w wl ∧ w23.heap.size ≤ wl.heap.size ∧ Box wl b0_ [v1, .int .i64 i37, .int .i64 i38] 90 ∧ slRep (cInt .u8) wl (Iv lo3 hi4) a0_s.code_ v1 ∧ ownR C_Clock wl (g10) (Iv 0 0) 45 l31 v32 ∧ (∀ q, v32.ownBlock = some q → g10 ≤ q ∧ q < wl.heap.size) ∧ (∀ g, v32.ownBlock = some g → g ≠ b0_) ∧ F_spec_l14Draw_L1 n a0_s (fun l31 i35 i37 i38 => (Option.bind (F_spec_l01Next n ((S_l01Source.mk a0_s.code_ i37 i38)) ((l31.length : Int))) fun r41 => (Option.bind (F_spec_l01Next n ((S_l01Source.mk a0_s.code_ r41.2.at_ r41.2.seed_)) 30) fun r49 => (bif (r49.1 == 0) then (Option.bind (F_spec_l01Next n ((S_l01Source.mk a0_s.code_ r49.2.at_ r49.2.seed_)) 2) fun r58 => (Option.bind (getI l31 r41.1) fun x66 => (some ((l31.set (r41.1).toNat ((S_Clock.mk x66.Name x66.Place x66.Period x66.RiseAt x66.FallAt x66.Source (IntKind.wrap IntKind.i64 (9 * r58.1)) x66.Invert x66.EarlyLatency x66.LateLatency x66.Uncertainty))), (S_l01Source.mk a0_s.code_ r58.2.at_ r58.2.seed_))))) else (bif (r49.1 == 1) then (Option.bind (getI l31 r41.1) fun x80 => (Option.bind (getI l31 r41.1) fun x87 => (some ((l31.set (r41.1).toNat ((S_Clock.mk x87.Name x87.Place x87.Period x87.RiseAt x80.RiseAt x87.Source x87.Divide x87.Invert x87.EarlyLatency x87.LateLatency x87.Uncertainty))), (S_l01Source.mk a0_s.code_ r49.2.at_ r49.2.seed_))))) else (bif (r49.1 == 2) then (Option.bind (getI l31 0) fun x101 => (Option.bind (getI l31 r41.1) fun x108 => (some ((l31.set (r41.1).toNat ((S_Clock.mk x101.Name x108.Place x108.Period x108.RiseAt x108.FallAt x108.Source x108.Divide x108.Invert x108.EarlyLatency x108.LateLatency x108.Uncertainty))), (S_l01Source.mk a0_s.code_ r49.2.at_ r49.2.seed_))))) else (bif (r49.1 == 3) then (Option.bind (getI l31 r41.1) fun x122 => (some ((l31.set (r41.1).toNat ((S_Clock.mk x122.Name x122.Place x122.Period x122.RiseAt x122.FallAt r41.1 x122.Divide x122.Invert x122.EarlyLatency x122.LateLatency x122.Uncertainty))), (S_l01Source.mk a0_s.code_ r49.2.at_ r49.2.seed_)))) else (bif (r49.1 == 4) then (Option.bind (getI l31 r41.1) fun x136 => (Option.bind (getI l31 r41.1) fun x143 => (some ((l31.set (r41.1).toNat ((S_Clock.mk x143.Name x143.Place x143.Period x143.RiseAt x143.FallAt x143.Source x143.Divide x143.Invert x143.EarlyLatency (IntKind.wrap IntKind.i64 (x136.EarlyLatency - 1)) x143.Uncertainty))), (S_l01Source.mk a0_s.code_ r49.2.at_ r49.2.seed_))))) else (bif (r49.1 == 5) then (Option.bind (F_spec_l01Next n ((S_l01Source.mk a0_s.code_ r49.2.at_ r49.2.seed_)) 2) fun r157 => (Option.bind (getI l31 0) fun x165 => (some ((l31.set (0 : Int).toNat ((S_Clock.mk x165.Name x165.Place (IntKind.wrap IntKind.i64 (100000 + r157.1)) x165.RiseAt x165.FallAt x165.Source x165.Divide x165.Invert x165.EarlyLatency x165.LateLatency x165.Uncertainty))), (S_l01Source.mk a0_s.code_ r157.2.at_ r157.2.seed_))))) else (bif (r49.1 == 6) then (F_spec_l14Draw_L2 n (fun l181 => (some (l181, (S_l01Source.mk a0_s.code_ r49.2.at_ r49.2.seed_)))) n l31) else (some (l31, (S_l01Source.mk a0_s.code_ r49.2.at_ r49.2.seed_))))))))))))) m41 l31 i35 i37 i38 = some r) n ?_ ?_
  · intro a hK; exact ⟨(([] : List S_Clock)), v8, (IntKind.wrap IntKind.i64 (1 + r21.1)), r21.2.at_, r21.2.seed_, hK.weaken ⟨rfl, rfl, rfl, trivial⟩, he26, Nat.le_refl _, hb25, ha2, hs15, (fun g hg => by have := hbd19 g hg; omega), (fun g hg => by have := hbd19 g hg; omega), hF⟩
  · rintro m41 a w29 ⟨l31, v32, i35, i37, i38, hK, he30, hz42, hb36, hs39, hs33, hbd34, hp40, hF⟩
    revert hK; revert a; refine (?_ : WC _ _ _ _ _ _)
    cases m41 with
    | zero => rw [F_spec_l14Draw_L1_z] at hF; cases hF
    | succ m41 =>
      rw [F_spec_l14Draw_L1_s] at hF
      refine WC.seq ?_
      refine WC.seq ?_
      refine WC.region ?_
      refine TL.yld rfl rfl (yld_move rfl rfl) ?_
      refine TL.yld rfl rfl (yld_gtr rfl rfl rfl) ?_
      refine TL.done ?_
      refine NX.seq ?_
      refine WC.cond rfl ?_ ?_
      · intro hc43
        replace hF := bif_t hc43 hF
        refine WC.skip' ?_
        refine NX.seq ?_
        refine WC.seq ?_
        refine WC.block ?_
        refine WC.seq ?_
        refine WC.region ?_
        refine TL.yld rfl rfl (yld_move rfl rfl) ?_
        refine TL.yld rfl rfl (yld_len_own (c := C_Clock) rfl Tryd.underlying25 rfl hs33) ?_
        refine TL.yld rfl rfl (yld_assign rfl rfl) ?_
        refine TL.done ?_
        refine NX.seq ?_
        refine WC.seq ?_
        refine WC.region ?_
        refine TL.yld rfl rfl (yld_move rfl rfl) ?_
        obtain ⟨r44, hr45, hF⟩ := bsome hF
        refine TL.eff rfl rfl (eff_call rfl gf_69 rfl (W_spec_l01Next hr45 hb36 hs39 (by omega) (by omega))) ?_
        rintro _ w46 ⟨rfl, hb48, hx47⟩
        have he49 : But (pB b0_) w w46 := But.but he30 hx47 (all_pB (Or.inl rfl))
        have hs39 := slRep.but hs39 hx47 (all_pB (by omega)) (by omega)
        have hp50 : ∀ g, v32.ownBlock = some g → g ≠ b0_ := hp40
        have hs33 := ownR.butF hs33 hx47 (all_pB (fun g hg e => hp50 g hg e.symm))
        have hz51 := (hx47).size
        refine TL.yld rfl rfl (yld_assign rfl rfl) ?_
        refine TL.done ?_
        refine NX.seq ?_
        refine WC.seq ?_
        refine WC.region ?_
        refine TL.yld rfl rfl (yld_move rfl rfl) ?_
        obtain ⟨r52, hr53, hF⟩ := bsome hF
        refine TL.eff rfl rfl (eff_call rfl gf_78 rfl (W_spec_l01Number hr53)) ?_
        rintro _ w54 ⟨rfl, hx55⟩
        have he56 : But (pB b0_) w w54 := But.ext he49 hx55
        have hb48 := Box.ext hb48 hx55
        have hs39 := slRep.old hs39 hx55 (by omega)
        have hs33 := ownR.ext hs33 hx55
        have hz57 := (hx55).size
        obtain ⟨t58, ht59, hF⟩ := bsome hF
        refine TL.yld rfl rfl (yld_cat rfl rfl rfl ht59) ?_
        refine TL.yld rfl rfl (yld_move rfl rfl) ?_
        obtain ⟨r60, hr61, hF⟩ := bsome hF
        refine TL.eff rfl rfl (eff_call rfl gf_69 rfl (W_spec_l01Next hr61 hb48 hs39 (by omega) (by omega))) ?_
        rintro _ w62 ⟨rfl, hb64, hx63⟩
        have he65 : But (pB b0_) w w62 := But.but he56 hx63 (all_pB (Or.inl rfl))
        have hs39 := slRep.but hs39 hx63 (all_pB (by omega)) (by omega)
        have hp66 : ∀ g, v32.ownBlock = some g → g ≠ b0_ := hp40
        have hs33 := ownR.butF hs33 hx63 (all_pB (fun g hg e => hp66 g hg e.symm))
        have hz67 := (hx63).size
        refine TL.yld rfl rfl (yld_move rfl rfl) ?_
        refine TL.yld rfl rfl (yld_move rfl rfl) ?_
        refine TL.yld rfl rfl (yld_move rfl rfl) ?_
        obtain ⟨r68, hr69, hF⟩ := bsome hF
        refine TL.eff rfl rfl (eff_call rfl gf_69 rfl (W_spec_l01Next hr69 hb64 hs39 (by omega) (by omega))) ?_
        rintro _ w70 ⟨rfl, hb72, hx71⟩
        have he73 : But (pB b0_) w w70 := But.but he65 hx71 (all_pB (Or.inl rfl))
        have hs39 := slRep.but hs39 hx71 (all_pB (by omega)) (by omega)
        have hp74 : ∀ g, v32.ownBlock = some g → g ≠ b0_ := hp40
        have hs33 := ownR.butF hs33 hx71 (all_pB (fun g hg e => hp74 g hg e.symm))
        have hz75 := (hx71).size
        refine TL.yld rfl rfl (yld_add rfl rfl rfl) ?_
        refine TL.yld rfl rfl (yld_move rfl rfl) ?_
        obtain ⟨r76, hr77, hF⟩ := bsome hF
        refine TL.eff rfl rfl (eff_call rfl gf_69 rfl (W_spec_l01Next hr77 hb72 hs39 (by omega) (by omega))) ?_
        rintro _ w78 ⟨rfl, hb80, hx79⟩
        have he81 : But (pB b0_) w w78 := But.but he73 hx79 (all_pB (Or.inl rfl))
        have hs39 := slRep.but hs39 hx79 (all_pB (by omega)) (by omega)
        have hp82 : ∀ g, v32.ownBlock = some g → g ≠ b0_ := hp40
        have hs33 := ownR.butF hs33 hx79 (all_pB (fun g hg e => hp82 g hg e.symm))
        have hz83 := (hx79).size
        refine TL.yld rfl rfl (yld_build (uss := [(0, [.string t58]), (1, [.int .i64 r60.1]), (5, [.int .i64 (-1)]), (6, [.int .i64 1]), (8, [.int .i64 r44.1]), (9, [.int .i64 (IntKind.wrap IntKind.i64 (r44.1 + r68.1))]), (10, [.int .i64 r76.1])]) (out := [.string t58, .int .i64 r60.1, .int .i64 0, .int .i64 0, .int .i64 0, .int .i64 (-1), .int .i64 1, .bool false, .int .i64 r44.1, .int .i64 (IntKind.wrap IntKind.i64 (r44.1 + r68.1)), .int .i64 r76.1]) rfl rfl zn_45 pl_45 rfl rfl) ?_
        refine TL.eff rfl rfl (eff_alloc rfl zn_45) ?_
        rintro _ w85 ⟨b84, rfl, hn86⟩
        obtain ⟨hn86e, hn86s, hn86x, hb87⟩ := hn86
        have hb87 : Box w85 b84 [.string ByteArray.empty, .int .i64 0, .int .i64 0, .int .i64 0, .int .i64 0, .int .i64 0, .int .i64 0, .bool false, .int .i64 0, .int .i64 0, .int .i64 0] 45 := hb87
        have he89 : But (pB b0_) w w85 := But.ext he81 hn86x
        have hb80 := Box.ext hb80 hn86x
        have hs39 := slRep.old hs39 hn86x (by omega)
        have hs33 := ownR.ext hs33 hn86x
        have hz90 := (hn86x).size
        have hlo88 : w.heap.size ≤ b84 := by rw [hn86e]; exact (he81).size
        refine TL.eff rfl rfl (eff_store rfl rfl rfl hb87 cn_45 rfl rfl) ?_
        rintro _ w91 ⟨hu92, hb93⟩
        have he94 : But (pB b0_) w w91 := But.upd he89 hu92 (Or.inr (by omega))
        have hb80 := Box.upd hb80 hu92 (by omega)
        have hs39 := slRep.upd hs39 hu92 (by omega)
        have hs33 := ownR.upd hs33 hu92 (fun g hg => by have := hbd34 g hg; omega)
        have hz95 := (hu92).size
        have hb87 : Box w91 b84 [.string t58, .int .i64 r60.1, .int .i64 0, .int .i64 0, .int .i64 0, .int .i64 (-1), .int .i64 1, .bool false, .int .i64 r44.1, .int .i64 (IntKind.wrap IntKind.i64 (r44.1 + r68.1)), .int .i64 r76.1] 45 := hb93
        refine TL.done ?_
        refine NX.seq ?_
        refine WC.seq ?_
        refine WC.seq ?_
        refine WC.region ?_
        refine TL.yld rfl rfl (yld_move rfl rfl) ?_
        refine TL.yld rfl rfl (yld_eql rfl rfl rfl) ?_
        refine TL.yld rfl rfl (yld_move rfl rfl) ?_
        obtain ⟨c96, hb97, hF⟩ := bsome hF
        refine TL.cut 4 [(0, .pointer (some ⟨b0_, 0, none⟩)), (3, v32), (4, .int .i64 i35), (5, .int .i64 ((l31.length : Int))), (7, .pointer (some ⟨b84, 0, none⟩)), (41, .bool c96.1)] (fun w' => But (pB b0_) w91 w' ∧ Box w' b0_ [v1, .int .i64 c96.2.1, .int .i64 c96.2.2] 90) ?_ ?_
        · rcases Bool.eq_false_or_eq_true ((((l31.length : Int)) == 0)) with hg98 | hg98
          ·
            rw [hg98] at hb97; simp only [cond_true, cond_false] at hb97
            refine TL.gnu (j := 2) (t := 37) rfl rfl rfl hg98 rfl ?_
            refine TL.gnu (j := 2) (t := 37) rfl rfl rfl hg98 rfl ?_
            refine TL.gnu (j := 2) (t := 37) rfl rfl rfl hg98 rfl ?_
            obtain rfl := Option.some.inj hb97
            refine TL.yld rfl rfl (yld_pick_t rfl rfl hg98 rfl) ?_
            exact TL.nil fun a h => ⟨h.weaken ⟨rfl, rfl, rfl, rfl, rfl, rfl, trivial⟩, (But.refl _ _), hb80⟩
          ·
            rw [hg98] at hb97; simp only [cond_true, cond_false] at hb97
            replace hF := hb97
            refine TL.gy (j := 2) (t := 37) rfl rfl rfl hg98 rfl (yld_move rfl rfl) ?_
            obtain ⟨r99, hr100, hF⟩ := bsome hF
            refine TL.ge (j := 2) (t := 37) rfl rfl rfl hg98 rfl (eff_call rfl gf_69 rfl (W_spec_l01Next hr100 hb80 hs39 (by omega) (by omega))) ?_
            rintro _ w101 ⟨rfl, hb103, hx102⟩
            have he104 : But (pB b0_) w w101 := But.but he94 hx102 (all_pB (Or.inl rfl))
            have hb87 := Box.but hb87 hx102 (all_pB (by omega))
            have hs39 := slRep.but hs39 hx102 (all_pB (by omega)) (by omega)
            have hp105 : ∀ g, v32.ownBlock = some g → g ≠ b0_ := hp40
            have hs33 := ownR.butF hs33 hx102 (all_pB (fun g hg e => hp105 g hg e.symm))
            have hz106 := (hx102).size
            refine TL.gy (j := 2) (t := 37) rfl rfl rfl hg98 rfl (yld_eql rfl rfl rfl) ?_
            obtain rfl := Option.some.inj hF
            refine TL.yld rfl rfl (yld_pick_f rfl rfl hg98 rfl) ?_
            exact TL.nil fun a h => ⟨h.weaken ⟨rfl, rfl, rfl, rfl, rfl, rfl, trivial⟩, (But.but (But.refl _ _) hx102 (fun k q => Or.inl q)), hb103⟩
        rintro w107 ⟨hx108, hb109⟩
        have he110 : But (pB b0_) w w107 := But.but he94 hx108 (all_pB (Or.inl rfl))
        have hb87 := Box.but hb87 hx108 (all_pB (by omega))
        have hs39 := slRep.but hs39 hx108 (all_pB (by omega)) (by omega)
        have hp111 : ∀ g, v32.ownBlock = some g → g ≠ b0_ := hp40
        have hs33 := ownR.butF hs33 hx108 (all_pB (fun g hg e => hp111 g hg e.symm))
        have hz112 := (hx108).size
        refine TL.done ?_
        refine NX.seq ?_
        refine WC.cond rfl ?_ ?_
        · intro hc113
          replace hF := bif_t hc113 hF
          refine WC.seq ?_
          refine WC.region ?_
          refine TL.eff rfl rfl (eff_buildSlice (c := (cInt .i64)) (xs := [10, 12, 20, 30, 100, 7, 2]) (S := (Iv 0 0)) (uss := [(0, [.int .i64 10]), (1, [.int .i64 12]), (2, [.int .i64 20]), (3, [.int .i64 30]), (4, [.int .i64 100]), (5, [.int .i64 7]), (6, [.int .i64 2])]) (out := [.int .i64 10, .int .i64 12, .int .i64 20, .int .i64 30, .int .i64 100, .int .i64 7, .int .i64 2]) rfl Tryd.underlying46 in_2 rfl rfl (fillL_all [[.int .i64 10], [.int .i64 12], [.int .i64 20], [.int .i64 30], [.int .i64 100], [.int .i64 7], [.int .i64 2]] rfl rfl rfl) rfl rfl rfl rfl (one_rep (uss := [[.int .i64 10], [.int .i64 12], [.int .i64 20], [.int .i64 30], [.int .i64 100], [.int .i64 7], [.int .i64 2]]) (show reps _ _ _ _ _ from ⟨rfl, rfl, rfl, rfl, rfl, rfl, rfl, trivial⟩) rfl) (fun k h => by have := h.2; omega) rfl) ?_
          rintro v114 w115 ⟨g116, hv117, hg118, hz119, hx120, hs121⟩
          have he122 : But (pB b0_) w w115 := But.ext he110 hx120
          have hb109 := Box.ext hb109 hx120
          have hb87 := Box.ext hb87 hx120
          have hs39 := slRep.old hs39 hx120 (by omega)
          have hs33 := ownR.ext hs33 hx120
          have hz123 := (hx120).size
          have hlo124 : w.heap.size ≤ g116 := by rw [hg118]; exact (he110).size
          have hbd125 := bd_of hv117
          clear hv117
          refine TL.yld rfl rfl (yld_move rfl rfl) ?_
          obtain ⟨r127, hr128, hF⟩ := bsome hF
          refine TL.eff rfl rfl (eff_call rfl gf_69 rfl (W_spec_l01Next hr128 hb109 hs39 (by omega) (by omega))) ?_
          rintro _ w129 ⟨rfl, hb131, hx130⟩
          have he132 : But (pB b0_) w w129 := But.but he122 hx130 (all_pB (Or.inl rfl))
          have hb87 := Box.but hb87 hx130 (all_pB (by omega))
          have hs39 := slRep.but hs39 hx130 (all_pB (by omega)) (by omega)
          have hp133 : ∀ g, v32.ownBlock = some g → g ≠ b0_ := hp40
          have hs33 := ownR.butF hs33 hx130 (all_pB (fun g hg e => hp133 g hg e.symm))
          have hp134 : ∀ g, v114.ownBlock = some g → g ≠ b0_ := (fun g hg => by have := hbd125 g hg; omega)
          have hs121 := ownR.butF hs121 hx130 (all_pB (fun g hg e => hp134 g hg e.symm))
          have hz135 := (hx130).size
          obtain ⟨x136, hy137, hF⟩ := bsome hF
          refine TL.ye rfl rfl (ye_index_own (c := (cInt .i64)) rfl Tryd.underlying46 cn_2 rfl rfl hs121 hy137) ?_
          rintro _ ⟨g138, us140, rfl, hg139, hr141, hcl142⟩
          have hr141r := hr141
          obtain rfl := hr141
          refine TL.yld rfl rfl (yld_load1 0 rfl ag_2 rfl hcl142 rfl rfl) ?_
          refine TL.yld rfl rfl (yld_fieldAddr rfl fo_45_2 rfl) ?_
          refine TL.eff rfl rfl (eff_store rfl rfl rfl hb87 cn_2 rfl rfl) ?_
          rintro _ w143 ⟨hu144, hb145⟩
          have he146 : But (pB b0_) w w143 := But.upd he132 hu144 (Or.inr (by omega))
          have hb131 := Box.upd hb131 hu144 (by omega)
          have hs39 := slRep.upd hs39 hu144 (by omega)
          have hs33 := ownR.upd hs33 hu144 (fun g hg => by have := hbd34 g hg; omega)
          have hs121 := ownR.upd hs121 hu144 (fun g hg => by have := hbd125 g hg; omega)
          have hz147 := (hu144).size
          have hb87 : Box w143 b84 [.string t58, .int .i64 r60.1, .int .i64 x136, .int .i64 0, .int .i64 0, .int .i64 (-1), .int .i64 1, .bool false, .int .i64 r44.1, .int .i64 (IntKind.wrap IntKind.i64 (r44.1 + r68.1)), .int .i64 r76.1] 45 := hb145
          refine TL.done ?_
          refine NX.seq ?_
          refine WC.seq ?_
          refine WC.region ?_
          refine TL.yld rfl rfl (yld_move rfl rfl) ?_
          refine TL.yld rfl rfl (yld_fieldAddr rfl fo_45_2 rfl) ?_
          refine TL.yld rfl rfl (yld_load1 2 rfl ag_2 rfl (Box.cells hb87) rfl rfl) ?_
          obtain ⟨r148, hr149, hF⟩ := bsome hF
          refine TL.eff rfl rfl (eff_call rfl gf_69 rfl (W_spec_l01Next hr149 hb131 hs39 (by omega) (by omega))) ?_
          rintro _ w150 ⟨rfl, hb152, hx151⟩
          have he153 : But (pB b0_) w w150 := But.but he146 hx151 (all_pB (Or.inl rfl))
          have hb87 := Box.but hb87 hx151 (all_pB (by omega))
          have hs39 := slRep.but hs39 hx151 (all_pB (by omega)) (by omega)
          have hp154 : ∀ g, v32.ownBlock = some g → g ≠ b0_ := hp40
          have hs33 := ownR.butF hs33 hx151 (all_pB (fun g hg e => hp154 g hg e.symm))
          have hp155 : ∀ g, v114.ownBlock = some g → g ≠ b0_ := (fun g hg => by have := hbd125 g hg; omega)
          have hs121 := ownR.butF hs121 hx151 (all_pB (fun g hg e => hp155 g hg e.symm))
          have hz156 := (hx151).size
          refine TL.yld rfl rfl (yld_fieldAddr rfl fo_45_3 rfl) ?_
          refine TL.eff rfl rfl (eff_store rfl rfl rfl hb87 cn_2 rfl rfl) ?_
          rintro _ w157 ⟨hu158, hb159⟩
          have he160 : But (pB b0_) w w157 := But.upd he153 hu158 (Or.inr (by omega))
          have hb152 := Box.upd hb152 hu158 (by omega)
          have hs39 := slRep.upd hs39 hu158 (by omega)
          have hs33 := ownR.upd hs33 hu158 (fun g hg => by have := hbd34 g hg; omega)
          have hs121 := ownR.upd hs121 hu158 (fun g hg => by have := hbd125 g hg; omega)
          have hz161 := (hu158).size
          have hb87 : Box w157 b84 [.string t58, .int .i64 r60.1, .int .i64 x136, .int .i64 r148.1, .int .i64 0, .int .i64 (-1), .int .i64 1, .bool false, .int .i64 r44.1, .int .i64 (IntKind.wrap IntKind.i64 (r44.1 + r68.1)), .int .i64 r76.1] 45 := hb159
          refine TL.done ?_
          refine NX.seq ?_
          obtain ⟨r162, hr163, hF⟩ := bsome hF
          obtain ⟨hn171, hF⟩ := nzero hF
          refine WC.heldG (p := (pB b0_)) 11 Tryd.hm fun w177 hx178 => ?_
          have he179 : But (pB b0_) w w177 := But.ext he160 hx178
          have hb152 := Box.ext hb152 hx178
          have hb87 := Box.ext hb87 hx178
          have hs39 := slRep.old hs39 hx178 (by omega)
          have hs33 := ownR.ext hs33 hx178
          have hs121 := ownR.ext hs121 hx178
          have hz180 := (hx178).size
          refine HLG.yld 0 (by kernel_rfl) rfl (by kernel_rfl) rfl rfl (fun wx hbx => (yld_fieldAddr rfl fo_45_3 rfl)) ?_
          refine HLG.yld 1 (by kernel_rfl) rfl (by kernel_rfl) rfl rfl (fun wx hbx => (have hb87 := Box.but hb87 hbx (all_pB (by omega)); (yld_load1 3 rfl ag_2 rfl (Box.cells hb87) rfl rfl))) ?_
          refine HLG.yld 2 (by kernel_rfl) rfl (by kernel_rfl) rfl rfl (fun wx hbx => (yld_add rfl rfl rfl)) ?_
          refine HLG.yld 3 (by kernel_rfl) rfl (by kernel_rfl) rfl rfl (fun wx hbx => (yld_move rfl rfl)) ?_
          refine HLG.yld 4 (by kernel_rfl) rfl (by kernel_rfl) rfl rfl (fun wx hbx => (yld_fieldAddr rfl fo_45_2 rfl)) ?_
          refine HLG.yld 5 (by kernel_rfl) rfl (by kernel_rfl) rfl rfl (fun wx hbx => (have hb87 := Box.but hb87 hbx (all_pB (by omega)); (yld_load1 2 rfl ag_2 rfl (Box.cells hb87) rfl rfl))) ?_
          refine HLG.yld 6 (by kernel_rfl) rfl (by kernel_rfl) rfl rfl (fun wx hbx => (yld_sub rfl rfl rfl)) ?_
          refine HLG.yld 9 (by kernel_rfl) rfl (by kernel_rfl) rfl rfl (fun wx hbx => (yld_fieldAddr rfl fo_45_2 rfl)) ?_
          refine HLG.yld 10 (by kernel_rfl) rfl (by kernel_rfl) rfl rfl (fun wx hbx => (have hb87 := Box.but hb87 hbx (all_pB (by omega)); (yld_load1 2 rfl ag_2 rfl (Box.cells hb87) rfl rfl))) ?_
          refine HLG.eff 7 rfl rfl (by kernel_rfl) rfl rfl (eff_call rfl gf_69 rfl (W_spec_l01Next hr163 hb152 hs39 (by omega) (by omega))) ?_
          rintro _ w181 ⟨rfl, hb183, hx182⟩
          have he184 : But (pB b0_) w w181 := But.but he179 hx182 (all_pB (Or.inl rfl))
          have hb87 := Box.but hb87 hx182 (all_pB (by omega))
          have hs39 := slRep.but hs39 hx182 (all_pB (by omega)) (by omega)
          have hp185 : ∀ g, v32.ownBlock = some g → g ≠ b0_ := hp40
          have hs33 := ownR.butF hs33 hx182 (all_pB (fun g hg e => hp185 g hg e.symm))
          have hp186 : ∀ g, v114.ownBlock = some g → g ≠ b0_ := (fun g hg => by have := hbd125 g hg; omega)
          have hs121 := ownR.butF hs121 hx182 (all_pB (fun g hg e => hp186 g hg e.symm))
          have hz187 := (hx182).size
          have hbs188 : But (pB b0_) w177 w181 := (But.but (But.refl _ w177) hx182 (all_pB (Or.inl rfl)))
          refine ⟨hbs188, ?_⟩
          refine HLG.yld 8 (by kernel_rfl) rfl (by kernel_rfl) rfl rfl (fun wx hbx => (yld_add rfl rfl rfl)) ?_
          refine HLG.tail rfl (by kernel_rfl) rfl ?_
          refine TL.yld rfl rfl (yld_rem rfl rfl rfl hn171) ?_
          refine TL.yld rfl rfl (yld_fieldAddr rfl fo_45_4 rfl) ?_
          refine TL.eff rfl rfl (eff_store rfl rfl rfl hb87 cn_2 rfl rfl) ?_
          rintro _ w189 ⟨hu190, hb191⟩
          have he192 : But (pB b0_) w w189 := But.upd he184 hu190 (Or.inr (by omega))
          have hb183 := Box.upd hb183 hu190 (by omega)
          have hs39 := slRep.upd hs39 hu190 (by omega)
          have hs33 := ownR.upd hs33 hu190 (fun g hg => by have := hbd34 g hg; omega)
          have hs121 := ownR.upd hs121 hu190 (fun g hg => by have := hbd125 g hg; omega)
          have hz193 := (hu190).size
          have hb87 : Box w189 b84 [.string t58, .int .i64 r60.1, .int .i64 x136, .int .i64 r148.1, .int .i64 (Int.tmod (IntKind.wrap IntKind.i64 ((IntKind.wrap IntKind.i64 (r148.1 + 1)) + r162.1)) x136), .int .i64 (-1), .int .i64 1, .bool false, .int .i64 r44.1, .int .i64 (IntKind.wrap IntKind.i64 (r44.1 + r68.1)), .int .i64 r76.1] 45 := hb191
          refine TL.noPan (l := []) ?_
          refine NX.seq ?_
          refine WC.region ?_
          refine TL.yld rfl rfl (yld_move rfl rfl) ?_
          refine TL.yld rfl rfl (yld_loadN (us := [.string t58, .int .i64 r60.1, .int .i64 x136, .int .i64 r148.1, .int .i64 (Int.tmod (IntKind.wrap IntKind.i64 ((IntKind.wrap IntKind.i64 (r148.1 + 1)) + r162.1)) x136), .int .i64 (-1), .int .i64 1, .bool false, .int .i64 r44.1, .int .i64 (IntKind.wrap IntKind.i64 (r44.1 + r68.1)), .int .i64 r76.1]) rfl ag_45 rfl (Box.cells hb87) cn_45) ?_
          refine TL.eff rfl rfl (eff_buildSlice (c := C_Clock) (xs := [(S_Clock.mk t58 r60.1 x136 r148.1 (Int.tmod (IntKind.wrap IntKind.i64 ((IntKind.wrap IntKind.i64 (r148.1 + 1)) + r162.1)) x136) (-1) 1 false r44.1 (IntKind.wrap IntKind.i64 (r44.1 + r68.1)) r76.1)]) (S := (Iv 0 0)) (uss := [(0, [.string t58, .int .i64 r60.1, .int .i64 x136, .int .i64 r148.1, .int .i64 (Int.tmod (IntKind.wrap IntKind.i64 ((IntKind.wrap IntKind.i64 (r148.1 + 1)) + r162.1)) x136), .int .i64 (-1), .int .i64 1, .bool false, .int .i64 r44.1, .int .i64 (IntKind.wrap IntKind.i64 (r44.1 + r68.1)), .int .i64 r76.1])]) (out := [.string t58, .int .i64 r60.1, .int .i64 x136, .int .i64 r148.1, .int .i64 (Int.tmod (IntKind.wrap IntKind.i64 ((IntKind.wrap IntKind.i64 (r148.1 + 1)) + r162.1)) x136), .int .i64 (-1), .int .i64 1, .bool false, .int .i64 r44.1, .int .i64 (IntKind.wrap IntKind.i64 (r44.1 + r68.1)), .int .i64 r76.1]) rfl Tryd.underlying25 in_45 rfl rfl (fillL_all [[.string t58, .int .i64 r60.1, .int .i64 x136, .int .i64 r148.1, .int .i64 (Int.tmod (IntKind.wrap IntKind.i64 ((IntKind.wrap IntKind.i64 (r148.1 + 1)) + r162.1)) x136), .int .i64 (-1), .int .i64 1, .bool false, .int .i64 r44.1, .int .i64 (IntKind.wrap IntKind.i64 (r44.1 + r68.1)), .int .i64 r76.1]] rfl rfl rfl) rfl rfl rfl rfl (one_rep (uss := [[.string t58, .int .i64 r60.1, .int .i64 x136, .int .i64 r148.1, .int .i64 (Int.tmod (IntKind.wrap IntKind.i64 ((IntKind.wrap IntKind.i64 (r148.1 + 1)) + r162.1)) x136), .int .i64 (-1), .int .i64 1, .bool false, .int .i64 r44.1, .int .i64 (IntKind.wrap IntKind.i64 (r44.1 + r68.1)), .int .i64 r76.1]]) (show reps _ _ _ _ _ from ⟨C_Clock_mk, trivial⟩) rfl) (fun k h => by have := h.2; omega) rfl) ?_
          rintro v194 w195 ⟨g196, hv197, hg198, hz199, hx200, hs201⟩
          have he202 : But (pB b0_) w w195 := But.ext he192 hx200
          have hb183 := Box.ext hb183 hx200
          have hb87 := Box.ext hb87 hx200
          have hs39 := slRep.old hs39 hx200 (by omega)
          have hs33 := ownR.ext hs33 hx200
          have hs121 := ownR.ext hs121 hx200
          have hz203 := (hx200).size
          have hlo204 : w.heap.size ≤ g196 := by rw [hg198]; exact (he192).size
          have hbd205 := bd_of hv197
          clear hv197
          obtain ⟨z207, ha208, hF⟩ := bsome hF
          refine TL.eff rfl rfl (eff_appendF (c := C_Clock) rfl Tryd.underlying25 in_45 rfl rfl rfl rfl rfl hs33 (by omega) (ownR.slf hs201 (Nat.le_refl _) (Nat.le_refl _)) ha208) ?_
          rintro v209 w210 ⟨hs211, hgr212⟩
          have he214 : But (pB b0_) w w210 := But.grow he202 hgr212 (fun g hg => (Or.inr (by have := hbd34 g hg; omega)))
          have hp215 : ∀ g, v209.ownBlock = some g → g ≠ b0_ := Grew.sepP (p := fun g => g ≠ b0_) hgr212 hp40 (fun g hg => by omega)
          have hb183 := Grew.box hgr212 hb183 hp40
          have hp216 : ∀ g, v209.ownBlock = some g → g ≠ b84 := Grew.sepP (p := fun g => g ≠ b84) hgr212 (fun g hg => by have := hbd34 g hg; omega) (fun g hg => by omega)
          have hb87 := Grew.box hgr212 hb87 (fun g hg => by have := hbd34 g hg; omega)
          have hp217 : ∀ g, v209.ownBlock = some g → g < lo3 ∨ hi4 ≤ g := Grew.sepP (p := fun g => g < lo3 ∨ hi4 ≤ g) hgr212 (fun g hg => by have := hbd34 g hg; omega) (fun g hg => by omega)
          have hs39 := Grew.slr hgr212 hs39 (fun g hg => by have := hbd34 g hg; omega) (by omega)
          have hp218 : ∀ g q, v32.ownBlock = some g → v114.ownBlock = some q → g ≠ q := (fun g q hg hq => by have := hbd34 g hg; have := hbd125 q hq; omega)
          have hp219 : ∀ g q, v209.ownBlock = some g → v114.ownBlock = some q → g ≠ q := fun g q hg hq => Grew.sepP (p := fun g => ∀ q, v114.ownBlock = some q → g ≠ q) hgr212 (fun g hg q hq => (hp218) g q hg hq) (fun g hg q hq => by have := hbd125 q hq; omega) g hg q hq
          have hs121 := Grew.ownF hgr212 hs121 hp218
          have hp220 : ∀ g q, v32.ownBlock = some g → v194.ownBlock = some q → g ≠ q := (fun g q hg hq => by have := hbd34 g hg; have := hbd205 q hq; omega)
          have hp221 : ∀ g q, v209.ownBlock = some g → v194.ownBlock = some q → g ≠ q := fun g q hg hq => Grew.sepP (p := fun g => ∀ q, v194.ownBlock = some q → g ≠ q) hgr212 (fun g hg q hq => (hp220) g q hg hq) (fun g hg q hq => by have := hbd205 q hq; omega) g hg q hq
          have hs201 := Grew.ownF hgr212 hs201 hp220
          have hz222 := (hgr212).1.size
          have hbd223 : ∀ g, v209.ownBlock = some g → g10 ≤ g ∧ g < w210.heap.size := Grew.bd hgr212 hs211 (fun g hg => ⟨by have := hbd34 g hg; omega, (hbd34 g hg).2⟩) (by omega) (by omega)
          refine TL.yld rfl rfl (yld_assign rfl rfl) ?_
          refine TL.done ?_
          refine NX.blk_n ?_
          refine NX.seq ?_
          refine WC.region ?_
          refine TL.yld rfl rfl (yld_move rfl rfl) ?_
          refine TL.yld rfl rfl (yld_sub rfl rfl rfl) ?_
          refine TL.yld rfl rfl (yld_assign rfl rfl) ?_
          refine TL.done ?_
          refine NX.then_n ?_
          intro a hK; exact ⟨m41, Nat.lt_succ_self m41, z207, v209, (IntKind.wrap IntKind.i64 (i35 - 1)), r162.2.at_, r162.2.seed_, hK.weaken ⟨rfl, rfl, rfl, trivial⟩, he214, (by omega), hb183, hs39, hs211, (fun g hg => by have := hbd223 g hg; omega), hp215, hF⟩
        · intro hc224
          replace hF := bif_f hc224 hF
          refine WC.seq ?_
          refine WC.region ?_
          refine TL.yld rfl rfl (yld_move rfl rfl) ?_
          refine TL.yld rfl rfl (yld_move rfl rfl) ?_
          obtain ⟨r225, hr226, hF⟩ := bsome hF
          refine TL.eff rfl rfl (eff_call rfl gf_69 rfl (W_spec_l01Next hr226 hb109 hs39 (by omega) (by omega))) ?_
          rintro _ w227 ⟨rfl, hb229, hx228⟩
          have he230 : But (pB b0_) w w227 := But.but he110 hx228 (all_pB (Or.inl rfl))
          have hb87 := Box.but hb87 hx228 (all_pB (by omega))
          have hs39 := slRep.but hs39 hx228 (all_pB (by omega)) (by omega)
          have hp231 : ∀ g, v32.ownBlock = some g → g ≠ b0_ := hp40
          have hs33 := ownR.butF hs33 hx228 (all_pB (fun g hg e => hp231 g hg e.symm))
          have hz232 := (hx228).size
          refine TL.yld rfl rfl (yld_fieldAddr rfl fo_45_5 rfl) ?_
          refine TL.eff rfl rfl (eff_store rfl rfl rfl hb87 cn_2 rfl rfl) ?_
          rintro _ w233 ⟨hu234, hb235⟩
          have he236 : But (pB b0_) w w233 := But.upd he230 hu234 (Or.inr (by omega))
          have hb229 := Box.upd hb229 hu234 (by omega)
          have hs39 := slRep.upd hs39 hu234 (by omega)
          have hs33 := ownR.upd hs33 hu234 (fun g hg => by have := hbd34 g hg; omega)
          have hz237 := (hu234).size
          have hb87 : Box w233 b84 [.string t58, .int .i64 r60.1, .int .i64 0, .int .i64 0, .int .i64 0, .int .i64 r225.1, .int .i64 1, .bool false, .int .i64 r44.1, .int .i64 (IntKind.wrap IntKind.i64 (r44.1 + r68.1)), .int .i64 r76.1] 45 := hb235
          refine TL.done ?_
          refine NX.seq ?_
          refine WC.seq ?_
          refine WC.region ?_
          refine TL.yld rfl rfl (yld_move rfl rfl) ?_
          obtain ⟨r238, hr239, hF⟩ := bsome hF
          refine TL.eff rfl rfl (eff_call rfl gf_69 rfl (W_spec_l01Next hr239 hb229 hs39 (by omega) (by omega))) ?_
          rintro _ w240 ⟨rfl, hb242, hx241⟩
          have he243 : But (pB b0_) w w240 := But.but he236 hx241 (all_pB (Or.inl rfl))
          have hb87 := Box.but hb87 hx241 (all_pB (by omega))
          have hs39 := slRep.but hs39 hx241 (all_pB (by omega)) (by omega)
          have hp244 : ∀ g, v32.ownBlock = some g → g ≠ b0_ := hp40
          have hs33 := ownR.butF hs33 hx241 (all_pB (fun g hg e => hp244 g hg e.symm))
          have hz245 := (hx241).size
          refine TL.yld rfl rfl (yld_add rfl rfl rfl) ?_
          refine TL.yld rfl rfl (yld_fieldAddr rfl fo_45_6 rfl) ?_
          refine TL.eff rfl rfl (eff_store rfl rfl rfl hb87 cn_2 rfl rfl) ?_
          rintro _ w246 ⟨hu247, hb248⟩
          have he249 : But (pB b0_) w w246 := But.upd he243 hu247 (Or.inr (by omega))
          have hb242 := Box.upd hb242 hu247 (by omega)
          have hs39 := slRep.upd hs39 hu247 (by omega)
          have hs33 := ownR.upd hs33 hu247 (fun g hg => by have := hbd34 g hg; omega)
          have hz250 := (hu247).size
          have hb87 : Box w246 b84 [.string t58, .int .i64 r60.1, .int .i64 0, .int .i64 0, .int .i64 0, .int .i64 r225.1, .int .i64 (IntKind.wrap IntKind.i64 (1 + r238.1)), .bool false, .int .i64 r44.1, .int .i64 (IntKind.wrap IntKind.i64 (r44.1 + r68.1)), .int .i64 r76.1] 45 := hb248
          refine TL.done ?_
          refine NX.seq ?_
          refine WC.region ?_
          refine TL.yld rfl rfl (yld_move rfl rfl) ?_
          obtain ⟨r251, hr252, hF⟩ := bsome hF
          refine TL.eff rfl rfl (eff_call rfl gf_69 rfl (W_spec_l01Next hr252 hb242 hs39 (by omega) (by omega))) ?_
          rintro _ w253 ⟨rfl, hb255, hx254⟩
          have he256 : But (pB b0_) w w253 := But.but he249 hx254 (all_pB (Or.inl rfl))
          have hb87 := Box.but hb87 hx254 (all_pB (by omega))
          have hs39 := slRep.but hs39 hx254 (all_pB (by omega)) (by omega)
          have hp257 : ∀ g, v32.ownBlock = some g → g ≠ b0_ := hp40
          have hs33 := ownR.butF hs33 hx254 (all_pB (fun g hg e => hp257 g hg e.symm))
          have hz258 := (hx254).size
          refine TL.yld rfl rfl (yld_eql rfl rfl rfl) ?_
          refine TL.yld rfl rfl (yld_fieldAddr rfl fo_45_7 rfl) ?_
          refine TL.eff rfl rfl (eff_store rfl rfl rfl hb87 cn_4 rfl rfl) ?_
          rintro _ w259 ⟨hu260, hb261⟩
          have he262 : But (pB b0_) w w259 := But.upd he256 hu260 (Or.inr (by omega))
          have hb255 := Box.upd hb255 hu260 (by omega)
          have hs39 := slRep.upd hs39 hu260 (by omega)
          have hs33 := ownR.upd hs33 hu260 (fun g hg => by have := hbd34 g hg; omega)
          have hz263 := (hu260).size
          have hb87 : Box w259 b84 [.string t58, .int .i64 r60.1, .int .i64 0, .int .i64 0, .int .i64 0, .int .i64 r225.1, .int .i64 (IntKind.wrap IntKind.i64 (1 + r238.1)), .bool ((r251.1 == 0)), .int .i64 r44.1, .int .i64 (IntKind.wrap IntKind.i64 (r44.1 + r68.1)), .int .i64 r76.1] 45 := hb261
          refine TL.done ?_
          refine NX.seq ?_
          refine WC.region ?_
          refine TL.yld rfl rfl (yld_move rfl rfl) ?_
          refine TL.yld rfl rfl (yld_loadN (us := [.string t58, .int .i64 r60.1, .int .i64 0, .int .i64 0, .int .i64 0, .int .i64 r225.1, .int .i64 (IntKind.wrap IntKind.i64 (1 + r238.1)), .bool ((r251.1 == 0)), .int .i64 r44.1, .int .i64 (IntKind.wrap IntKind.i64 (r44.1 + r68.1)), .int .i64 r76.1]) rfl ag_45 rfl (Box.cells hb87) cn_45) ?_
          refine TL.eff rfl rfl (eff_buildSlice (c := C_Clock) (xs := [(S_Clock.mk t58 r60.1 0 0 0 r225.1 (IntKind.wrap IntKind.i64 (1 + r238.1)) ((r251.1 == 0)) r44.1 (IntKind.wrap IntKind.i64 (r44.1 + r68.1)) r76.1)]) (S := (Iv 0 0)) (uss := [(0, [.string t58, .int .i64 r60.1, .int .i64 0, .int .i64 0, .int .i64 0, .int .i64 r225.1, .int .i64 (IntKind.wrap IntKind.i64 (1 + r238.1)), .bool ((r251.1 == 0)), .int .i64 r44.1, .int .i64 (IntKind.wrap IntKind.i64 (r44.1 + r68.1)), .int .i64 r76.1])]) (out := [.string t58, .int .i64 r60.1, .int .i64 0, .int .i64 0, .int .i64 0, .int .i64 r225.1, .int .i64 (IntKind.wrap IntKind.i64 (1 + r238.1)), .bool ((r251.1 == 0)), .int .i64 r44.1, .int .i64 (IntKind.wrap IntKind.i64 (r44.1 + r68.1)), .int .i64 r76.1]) rfl Tryd.underlying25 in_45 rfl rfl (fillL_all [[.string t58, .int .i64 r60.1, .int .i64 0, .int .i64 0, .int .i64 0, .int .i64 r225.1, .int .i64 (IntKind.wrap IntKind.i64 (1 + r238.1)), .bool ((r251.1 == 0)), .int .i64 r44.1, .int .i64 (IntKind.wrap IntKind.i64 (r44.1 + r68.1)), .int .i64 r76.1]] rfl rfl rfl) rfl rfl rfl rfl (one_rep (uss := [[.string t58, .int .i64 r60.1, .int .i64 0, .int .i64 0, .int .i64 0, .int .i64 r225.1, .int .i64 (IntKind.wrap IntKind.i64 (1 + r238.1)), .bool ((r251.1 == 0)), .int .i64 r44.1, .int .i64 (IntKind.wrap IntKind.i64 (r44.1 + r68.1)), .int .i64 r76.1]]) (show reps _ _ _ _ _ from ⟨C_Clock_mk, trivial⟩) rfl) (fun k h => by have := h.2; omega) rfl) ?_
          rintro v264 w265 ⟨g266, hv267, hg268, hz269, hx270, hs271⟩
          have he272 : But (pB b0_) w w265 := But.ext he262 hx270
          have hb255 := Box.ext hb255 hx270
          have hb87 := Box.ext hb87 hx270
          have hs39 := slRep.old hs39 hx270 (by omega)
          have hs33 := ownR.ext hs33 hx270
          have hz273 := (hx270).size
          have hlo274 : w.heap.size ≤ g266 := by rw [hg268]; exact (he262).size
          have hbd275 := bd_of hv267
          clear hv267
          obtain ⟨z277, ha278, hF⟩ := bsome hF
          refine TL.eff rfl rfl (eff_appendF (c := C_Clock) rfl Tryd.underlying25 in_45 rfl rfl rfl rfl rfl hs33 (by omega) (ownR.slf hs271 (Nat.le_refl _) (Nat.le_refl _)) ha278) ?_
          rintro v279 w280 ⟨hs281, hgr282⟩
          have he284 : But (pB b0_) w w280 := But.grow he272 hgr282 (fun g hg => (Or.inr (by have := hbd34 g hg; omega)))
          have hp285 : ∀ g, v279.ownBlock = some g → g ≠ b0_ := Grew.sepP (p := fun g => g ≠ b0_) hgr282 hp40 (fun g hg => by omega)
          have hb255 := Grew.box hgr282 hb255 hp40
          have hp286 : ∀ g, v279.ownBlock = some g → g ≠ b84 := Grew.sepP (p := fun g => g ≠ b84) hgr282 (fun g hg => by have := hbd34 g hg; omega) (fun g hg => by omega)
          have hb87 := Grew.box hgr282 hb87 (fun g hg => by have := hbd34 g hg; omega)
          have hp287 : ∀ g, v279.ownBlock = some g → g < lo3 ∨ hi4 ≤ g := Grew.sepP (p := fun g => g < lo3 ∨ hi4 ≤ g) hgr282 (fun g hg => by have := hbd34 g hg; omega) (fun g hg => by omega)
          have hs39 := Grew.slr hgr282 hs39 (fun g hg => by have := hbd34 g hg; omega) (by omega)
          have hp288 : ∀ g q, v32.ownBlock = some g → v264.ownBlock = some q → g ≠ q := (fun g q hg hq => by have := hbd34 g hg; have := hbd275 q hq; omega)
          have hp289 : ∀ g q, v279.ownBlock = some g → v264.ownBlock = some q → g ≠ q := fun g q hg hq => Grew.sepP (p := fun g => ∀ q, v264.ownBlock = some q → g ≠ q) hgr282 (fun g hg q hq => (hp288) g q hg hq) (fun g hg q hq => by have := hbd275 q hq; omega) g hg q hq
          have hs271 := Grew.ownF hgr282 hs271 hp288
          have hz290 := (hgr282).1.size
          have hbd291 : ∀ g, v279.ownBlock = some g → g10 ≤ g ∧ g < w280.heap.size := Grew.bd hgr282 hs281 (fun g hg => ⟨by have := hbd34 g hg; omega, (hbd34 g hg).2⟩) (by omega) (by omega)
          refine TL.yld rfl rfl (yld_assign rfl rfl) ?_
          refine TL.done ?_
          refine NX.blk_n ?_
          refine NX.seq ?_
          refine WC.region ?_
          refine TL.yld rfl rfl (yld_move rfl rfl) ?_
          refine TL.yld rfl rfl (yld_sub rfl rfl rfl) ?_
          refine TL.yld rfl rfl (yld_assign rfl rfl) ?_
          refine TL.done ?_
          refine NX.then_n ?_
          intro a hK; exact ⟨m41, Nat.lt_succ_self m41, z277, v279, (IntKind.wrap IntKind.i64 (i35 - 1)), r251.2.at_, r251.2.seed_, hK.weaken ⟨rfl, rfl, rfl, trivial⟩, he284, (by omega), hb255, hs39, hs281, (fun g hg => by have := hbd291 g hg; omega), hp285, hF⟩
      · intro hc292
        replace hF := bif_f hc292 hF
        refine WC.exit' ?_
        refine NX.then_e ?_
        refine NX.then_e ?_
        refine NX.blk_hit ?_
        refine NX.seq ?_
        refine WC.seq ?_
        refine WC.region ?_
        refine TL.yld rfl rfl (yld_move rfl rfl) ?_
        refine TL.yld rfl rfl (yld_move rfl rfl) ?_
        refine TL.yld rfl rfl (yld_len_own (c := C_Clock) rfl Tryd.underlying25 rfl hs33) ?_
        obtain ⟨r293, hr294, hF⟩ := bsome hF
        refine TL.eff rfl rfl (eff_call rfl gf_69 rfl (W_spec_l01Next hr294 hb36 hs39 (by omega) (by omega))) ?_
        rintro _ w295 ⟨rfl, hb297, hx296⟩
        have he298 : But (pB b0_) w w295 := But.but he30 hx296 (all_pB (Or.inl rfl))
        have hs39 := slRep.but hs39 hx296 (all_pB (by omega)) (by omega)
        have hp299 : ∀ g, v32.ownBlock = some g → g ≠ b0_ := hp40
        have hs33 := ownR.butF hs33 hx296 (all_pB (fun g hg e => hp299 g hg e.symm))
        have hz300 := (hx296).size
        refine TL.yld rfl rfl (yld_assign rfl rfl) ?_
        refine TL.done ?_
        refine NX.seq ?_
        refine WC.seq ?_
        refine WC.seq ?_
        refine WC.region ?_
        refine TL.yld rfl rfl (yld_move rfl rfl) ?_
        obtain ⟨r301, hr302, hF⟩ := bsome hF
        refine TL.eff rfl rfl (eff_call rfl gf_69 rfl (W_spec_l01Next hr302 hb297 hs39 (by omega) (by omega))) ?_
        rintro _ w303 ⟨rfl, hb305, hx304⟩
        have he306 : But (pB b0_) w w303 := But.but he298 hx304 (all_pB (Or.inl rfl))
        have hs39 := slRep.but hs39 hx304 (all_pB (by omega)) (by omega)
        have hp307 : ∀ g, v32.ownBlock = some g → g ≠ b0_ := hp40
        have hs33 := ownR.butF hs33 hx304 (all_pB (fun g hg e => hp307 g hg e.symm))
        have hz308 := (hx304).size
        refine TL.done ?_
        refine NX.seq ?_
        refine WC.block ?_
        refine WC.seq ?_
        refine WC.region ?_
        refine TL.yld rfl rfl (yld_eql rfl rfl rfl) ?_
        refine TL.yld rfl rfl (yld_assign rfl rfl) ?_
        refine TL.done ?_
        refine NX.seq ?_
        refine WC.cond rfl ?_ ?_
        · intro hc309
          replace hF := bif_t hc309 hF
          refine WC.region ?_
          refine TL.yld rfl rfl (yld_move rfl rfl) ?_
          refine TL.yld rfl rfl (yld_move rfl rfl) ?_
          refine TL.yld rfl rfl (yld_move rfl rfl) ?_
          obtain ⟨r310, hr311, hF⟩ := bsome hF
          refine TL.eff rfl rfl (eff_call rfl gf_69 rfl (W_spec_l01Next hr311 hb305 hs39 (by omega) (by omega))) ?_
          rintro _ w312 ⟨rfl, hb314, hx313⟩
          have he315 : But (pB b0_) w w312 := But.but he306 hx313 (all_pB (Or.inl rfl))
          have hs39 := slRep.but hs39 hx313 (all_pB (by omega)) (by omega)
          have hp316 : ∀ g, v32.ownBlock = some g → g ≠ b0_ := hp40
          have hs33 := ownR.butF hs33 hx313 (all_pB (fun g hg e => hp316 g hg e.symm))
          have hz317 := (hx313).size
          refine TL.yld rfl rfl (yld_mul rfl rfl rfl) ?_
          obtain ⟨x318, hy319, hF⟩ := bsome hF
          refine TL.ye rfl rfl (ye_index_own (c := C_Clock) rfl Tryd.underlying25 cn_45 rfl rfl hs33 hy319) ?_
          rintro _ ⟨g320, us322, rfl, hg321, hr323, hcl324⟩
          have hr323r := hr323
          obtain rfl := C_Clock_open hr323
          refine TL.yld rfl rfl (yld_fieldAddr rfl fo_45_6 rfl) ?_
          refine TL.eff rfl rfl (eff_store_own (c := C_Clock) (us' := [.string x318.Name, .int .i64 x318.Place, .int .i64 x318.Period, .int .i64 x318.RiseAt, .int .i64 x318.FallAt, .int .i64 x318.Source, .int .i64 (IntKind.wrap IntKind.i64 (9 * r310.1)), .bool x318.Invert, .int .i64 x318.EarlyLatency, .int .i64 x318.LateLatency, .int .i64 x318.Uncertainty]) (y' := (S_Clock.mk x318.Name x318.Place x318.Period x318.RiseAt x318.FallAt x318.Source (IntKind.wrap IntKind.i64 (9 * r310.1)) x318.Invert x318.EarlyLatency x318.LateLatency x318.Uncertainty)) 6 _ rfl rfl rfl hs33 hg321 hy319 rfl cn_2 rfl hr323r hcl324 rfl rfl C_Clock_mk (fun k h => absurd h.2 (Nat.not_lt_zero k))) ?_
          rintro _ w325 ⟨hu326, hs327⟩
          have he328 : But (pB b0_) w w325 := But.upd he315 hu326 (Or.inr (by have := hbd34 _ hg321; omega))
          have hb314 := Box.upd hb314 hu326 (by have := hp40 _ hg321; omega)
          have hs39 := slRep.upd hs39 hu326 (by have := hbd34 _ hg321; omega)
          have hz329 := (hu326).size
          refine TL.done ?_
          refine NX.blk_n ?_
          refine NX.seq ?_
          refine WC.seq ?_
          refine WC.region ?_
          refine TL.yld rfl rfl (yld_move rfl rfl) ?_
          refine TL.yld rfl rfl (yld_assign rfl rfl) ?_
          refine TL.done ?_
          refine NX.seq ?_
          refine WC.ret' ?_
          obtain rfl := Option.some.inj hF
          exact NX.end (rs := [.tmp 2]) (vs := [v32]) rfl ⟨rfl, trivial⟩ ⟨_, rfl, _, rfl, ownR.base hs327 (by omega), hb314, he328⟩
        · intro hc330
          replace hF := bif_f hc330 hF
          refine WC.seq ?_
          refine WC.region ?_
          refine TL.yld rfl rfl (yld_eql rfl rfl rfl) ?_
          refine TL.yld rfl rfl (yld_assign rfl rfl) ?_
          refine TL.done ?_
          refine NX.seq ?_
          refine WC.cond rfl ?_ ?_
          · intro hc331
            replace hF := bif_t hc331 hF
            refine WC.region ?_
            refine TL.yld rfl rfl (yld_move rfl rfl) ?_
            refine TL.yld rfl rfl (yld_move rfl rfl) ?_
            refine TL.yld rfl rfl (yld_move rfl rfl) ?_
            refine TL.yld rfl rfl (yld_move rfl rfl) ?_
            obtain ⟨x332, hy333, hF⟩ := bsome hF
            refine TL.ye rfl rfl (ye_index_own (c := C_Clock) rfl Tryd.underlying25 cn_45 rfl rfl hs33 hy333) ?_
            rintro _ ⟨g334, us336, rfl, hg335, hr337, hcl338⟩
            have hr337r := hr337
            obtain rfl := C_Clock_open hr337
            refine TL.yld rfl rfl (yld_fieldAddr rfl fo_45_3 rfl) ?_
            refine TL.yld rfl rfl (yld_load1 3 rfl ag_2 rfl hcl338 rfl rfl) ?_
            obtain ⟨x339, hy340, hF⟩ := bsome hF
            refine TL.ye rfl rfl (ye_index_own (c := C_Clock) rfl Tryd.underlying25 cn_45 rfl rfl hs33 hy340) ?_
            rintro _ ⟨g341, us343, rfl, hg342, hr344, hcl345⟩
            have hr344r := hr344
            obtain rfl := C_Clock_open hr344
            refine TL.yld rfl rfl (yld_fieldAddr rfl fo_45_4 rfl) ?_
            refine TL.eff rfl rfl (eff_store_own (c := C_Clock) (us' := [.string x339.Name, .int .i64 x339.Place, .int .i64 x339.Period, .int .i64 x339.RiseAt, .int .i64 x332.RiseAt, .int .i64 x339.Source, .int .i64 x339.Divide, .bool x339.Invert, .int .i64 x339.EarlyLatency, .int .i64 x339.LateLatency, .int .i64 x339.Uncertainty]) (y' := (S_Clock.mk x339.Name x339.Place x339.Period x339.RiseAt x332.RiseAt x339.Source x339.Divide x339.Invert x339.EarlyLatency x339.LateLatency x339.Uncertainty)) 4 _ rfl rfl rfl hs33 hg342 hy340 rfl cn_2 rfl hr344r hcl345 rfl rfl C_Clock_mk (fun k h => absurd h.2 (Nat.not_lt_zero k))) ?_
            rintro _ w346 ⟨hu347, hs348⟩
            have he349 : But (pB b0_) w w346 := But.upd he306 hu347 (Or.inr (by have := hbd34 _ hg342; omega))
            have hb305 := Box.upd hb305 hu347 (by have := hp40 _ hg342; omega)
            have hs39 := slRep.upd hs39 hu347 (by have := hbd34 _ hg342; omega)
            have hz350 := (hu347).size
            refine TL.done ?_
            refine NX.blk_n ?_
            refine NX.seq ?_
            refine WC.seq ?_
            refine WC.region ?_
            refine TL.yld rfl rfl (yld_move rfl rfl) ?_
            refine TL.yld rfl rfl (yld_assign rfl rfl) ?_
            refine TL.done ?_
            refine NX.seq ?_
            refine WC.ret' ?_
            obtain rfl := Option.some.inj hF
            exact NX.end (rs := [.tmp 2]) (vs := [v32]) rfl ⟨rfl, trivial⟩ ⟨_, rfl, _, rfl, ownR.base hs348 (by omega), hb305, he349⟩
          · intro hc351
            replace hF := bif_f hc351 hF
            refine WC.seq ?_
            refine WC.region ?_
            refine TL.yld rfl rfl (yld_eql rfl rfl rfl) ?_
            refine TL.yld rfl rfl (yld_assign rfl rfl) ?_
            refine TL.done ?_
            refine NX.seq ?_
            refine WC.cond rfl ?_ ?_
            · intro hc352
              replace hF := bif_t hc352 hF
              refine WC.region ?_
              refine TL.yld rfl rfl (yld_move rfl rfl) ?_
              refine TL.yld rfl rfl (yld_move rfl rfl) ?_
              refine TL.yld rfl rfl (yld_move rfl rfl) ?_
              obtain ⟨x353, hy354, hF⟩ := bsome hF
              refine TL.ye rfl rfl (ye_index_own (c := C_Clock) rfl Tryd.underlying25 cn_45 rfl rfl hs33 hy354) ?_
              rintro _ ⟨g355, us357, rfl, hg356, hr358, hcl359⟩
              have hr358r := hr358
              obtain rfl := C_Clock_open hr358
              refine TL.yld rfl rfl (yld_fieldAddr rfl fo_45_0 rfl) ?_
              refine TL.yld rfl rfl (yld_load1 0 rfl ag_9 rfl hcl359 rfl rfl) ?_
              obtain ⟨x360, hy361, hF⟩ := bsome hF
              refine TL.ye rfl rfl (ye_index_own (c := C_Clock) rfl Tryd.underlying25 cn_45 rfl rfl hs33 hy361) ?_
              rintro _ ⟨g362, us364, rfl, hg363, hr365, hcl366⟩
              have hr365r := hr365
              obtain rfl := C_Clock_open hr365
              refine TL.yld rfl rfl (yld_fieldAddr rfl fo_45_0 rfl) ?_
              refine TL.eff rfl rfl (eff_store_own (c := C_Clock) (us' := [.string x353.Name, .int .i64 x360.Place, .int .i64 x360.Period, .int .i64 x360.RiseAt, .int .i64 x360.FallAt, .int .i64 x360.Source, .int .i64 x360.Divide, .bool x360.Invert, .int .i64 x360.EarlyLatency, .int .i64 x360.LateLatency, .int .i64 x360.Uncertainty]) (y' := (S_Clock.mk x353.Name x360.Place x360.Period x360.RiseAt x360.FallAt x360.Source x360.Divide x360.Invert x360.EarlyLatency x360.LateLatency x360.Uncertainty)) 0 _ rfl rfl rfl hs33 hg363 hy361 rfl cn_9 rfl hr365r hcl366 rfl rfl C_Clock_mk (fun k h => absurd h.2 (Nat.not_lt_zero k))) ?_
              rintro _ w367 ⟨hu368, hs369⟩
              have he370 : But (pB b0_) w w367 := But.upd he306 hu368 (Or.inr (by have := hbd34 _ hg363; omega))
              have hb305 := Box.upd hb305 hu368 (by have := hp40 _ hg363; omega)
              have hs39 := slRep.upd hs39 hu368 (by have := hbd34 _ hg363; omega)
              have hz371 := (hu368).size
              refine TL.done ?_
              refine NX.blk_n ?_
              refine NX.seq ?_
              refine WC.seq ?_
              refine WC.region ?_
              refine TL.yld rfl rfl (yld_move rfl rfl) ?_
              refine TL.yld rfl rfl (yld_assign rfl rfl) ?_
              refine TL.done ?_
              refine NX.seq ?_
              refine WC.ret' ?_
              obtain rfl := Option.some.inj hF
              exact NX.end (rs := [.tmp 2]) (vs := [v32]) rfl ⟨rfl, trivial⟩ ⟨_, rfl, _, rfl, ownR.base hs369 (by omega), hb305, he370⟩
            · intro hc372
              replace hF := bif_f hc372 hF
              refine WC.seq ?_
              refine WC.region ?_
              refine TL.yld rfl rfl (yld_eql rfl rfl rfl) ?_
              refine TL.yld rfl rfl (yld_assign rfl rfl) ?_
              refine TL.done ?_
              refine NX.seq ?_
              refine WC.cond rfl ?_ ?_
              · intro hc373
                replace hF := bif_t hc373 hF
                refine WC.region ?_
                refine TL.yld rfl rfl (yld_move rfl rfl) ?_
                refine TL.yld rfl rfl (yld_move rfl rfl) ?_
                refine TL.yld rfl rfl (yld_move rfl rfl) ?_
                obtain ⟨x374, hy375, hF⟩ := bsome hF
                refine TL.ye rfl rfl (ye_index_own (c := C_Clock) rfl Tryd.underlying25 cn_45 rfl rfl hs33 hy375) ?_
                rintro _ ⟨g376, us378, rfl, hg377, hr379, hcl380⟩
                have hr379r := hr379
                obtain rfl := C_Clock_open hr379
                refine TL.yld rfl rfl (yld_fieldAddr rfl fo_45_5 rfl) ?_
                refine TL.eff rfl rfl (eff_store_own (c := C_Clock) (us' := [.string x374.Name, .int .i64 x374.Place, .int .i64 x374.Period, .int .i64 x374.RiseAt, .int .i64 x374.FallAt, .int .i64 r293.1, .int .i64 x374.Divide, .bool x374.Invert, .int .i64 x374.EarlyLatency, .int .i64 x374.LateLatency, .int .i64 x374.Uncertainty]) (y' := (S_Clock.mk x374.Name x374.Place x374.Period x374.RiseAt x374.FallAt r293.1 x374.Divide x374.Invert x374.EarlyLatency x374.LateLatency x374.Uncertainty)) 5 _ rfl rfl rfl hs33 hg377 hy375 rfl cn_2 rfl hr379r hcl380 rfl rfl C_Clock_mk (fun k h => absurd h.2 (Nat.not_lt_zero k))) ?_
                rintro _ w381 ⟨hu382, hs383⟩
                have he384 : But (pB b0_) w w381 := But.upd he306 hu382 (Or.inr (by have := hbd34 _ hg377; omega))
                have hb305 := Box.upd hb305 hu382 (by have := hp40 _ hg377; omega)
                have hs39 := slRep.upd hs39 hu382 (by have := hbd34 _ hg377; omega)
                have hz385 := (hu382).size
                refine TL.done ?_
                refine NX.blk_n ?_
                refine NX.seq ?_
                refine WC.seq ?_
                refine WC.region ?_
                refine TL.yld rfl rfl (yld_move rfl rfl) ?_
                refine TL.yld rfl rfl (yld_assign rfl rfl) ?_
                refine TL.done ?_
                refine NX.seq ?_
                refine WC.ret' ?_
                obtain rfl := Option.some.inj hF
                exact NX.end (rs := [.tmp 2]) (vs := [v32]) rfl ⟨rfl, trivial⟩ ⟨_, rfl, _, rfl, ownR.base hs383 (by omega), hb305, he384⟩
              · intro hc386
                replace hF := bif_f hc386 hF
                refine WC.seq ?_
                refine WC.region ?_
                refine TL.yld rfl rfl (yld_eql rfl rfl rfl) ?_
                refine TL.yld rfl rfl (yld_assign rfl rfl) ?_
                refine TL.done ?_
                refine NX.seq ?_
                refine WC.cond rfl ?_ ?_
                · intro hc387
                  replace hF := bif_t hc387 hF
                  refine WC.region ?_
                  refine TL.yld rfl rfl (yld_move rfl rfl) ?_
                  refine TL.yld rfl rfl (yld_move rfl rfl) ?_
                  refine TL.yld rfl rfl (yld_move rfl rfl) ?_
                  refine TL.yld rfl rfl (yld_move rfl rfl) ?_
                  obtain ⟨x388, hy389, hF⟩ := bsome hF
                  refine TL.ye rfl rfl (ye_index_own (c := C_Clock) rfl Tryd.underlying25 cn_45 rfl rfl hs33 hy389) ?_
                  rintro _ ⟨g390, us392, rfl, hg391, hr393, hcl394⟩
                  have hr393r := hr393
                  obtain rfl := C_Clock_open hr393
                  refine TL.yld rfl rfl (yld_fieldAddr rfl fo_45_8 rfl) ?_
                  refine TL.yld rfl rfl (yld_load1 8 rfl ag_2 rfl hcl394 rfl rfl) ?_
                  refine TL.yld rfl rfl (yld_sub rfl rfl rfl) ?_
                  obtain ⟨x395, hy396, hF⟩ := bsome hF
                  refine TL.ye rfl rfl (ye_index_own (c := C_Clock) rfl Tryd.underlying25 cn_45 rfl rfl hs33 hy396) ?_
                  rintro _ ⟨g397, us399, rfl, hg398, hr400, hcl401⟩
                  have hr400r := hr400
                  obtain rfl := C_Clock_open hr400
                  refine TL.yld rfl rfl (yld_fieldAddr rfl fo_45_9 rfl) ?_
                  refine TL.eff rfl rfl (eff_store_own (c := C_Clock) (us' := [.string x395.Name, .int .i64 x395.Place, .int .i64 x395.Period, .int .i64 x395.RiseAt, .int .i64 x395.FallAt, .int .i64 x395.Source, .int .i64 x395.Divide, .bool x395.Invert, .int .i64 x395.EarlyLatency, .int .i64 (IntKind.wrap IntKind.i64 (x388.EarlyLatency - 1)), .int .i64 x395.Uncertainty]) (y' := (S_Clock.mk x395.Name x395.Place x395.Period x395.RiseAt x395.FallAt x395.Source x395.Divide x395.Invert x395.EarlyLatency (IntKind.wrap IntKind.i64 (x388.EarlyLatency - 1)) x395.Uncertainty)) 9 _ rfl rfl rfl hs33 hg398 hy396 rfl cn_2 rfl hr400r hcl401 rfl rfl C_Clock_mk (fun k h => absurd h.2 (Nat.not_lt_zero k))) ?_
                  rintro _ w402 ⟨hu403, hs404⟩
                  have he405 : But (pB b0_) w w402 := But.upd he306 hu403 (Or.inr (by have := hbd34 _ hg398; omega))
                  have hb305 := Box.upd hb305 hu403 (by have := hp40 _ hg398; omega)
                  have hs39 := slRep.upd hs39 hu403 (by have := hbd34 _ hg398; omega)
                  have hz406 := (hu403).size
                  refine TL.done ?_
                  refine NX.blk_n ?_
                  refine NX.seq ?_
                  refine WC.seq ?_
                  refine WC.region ?_
                  refine TL.yld rfl rfl (yld_move rfl rfl) ?_
                  refine TL.yld rfl rfl (yld_assign rfl rfl) ?_
                  refine TL.done ?_
                  refine NX.seq ?_
                  refine WC.ret' ?_
                  obtain rfl := Option.some.inj hF
                  exact NX.end (rs := [.tmp 2]) (vs := [v32]) rfl ⟨rfl, trivial⟩ ⟨_, rfl, _, rfl, ownR.base hs404 (by omega), hb305, he405⟩
                · intro hc407
                  replace hF := bif_f hc407 hF
                  refine WC.seq ?_
                  refine WC.region ?_
                  refine TL.yld rfl rfl (yld_eql rfl rfl rfl) ?_
                  refine TL.yld rfl rfl (yld_assign rfl rfl) ?_
                  refine TL.done ?_
                  refine NX.seq ?_
                  refine WC.cond rfl ?_ ?_
                  · intro hc408
                    replace hF := bif_t hc408 hF
                    refine WC.region ?_
                    refine TL.yld rfl rfl (yld_move rfl rfl) ?_
                    refine TL.yld rfl rfl (yld_move rfl rfl) ?_
                    obtain ⟨r409, hr410, hF⟩ := bsome hF
                    refine TL.eff rfl rfl (eff_call rfl gf_69 rfl (W_spec_l01Next hr410 hb305 hs39 (by omega) (by omega))) ?_
                    rintro _ w411 ⟨rfl, hb413, hx412⟩
                    have he414 : But (pB b0_) w w411 := But.but he306 hx412 (all_pB (Or.inl rfl))
                    have hs39 := slRep.but hs39 hx412 (all_pB (by omega)) (by omega)
                    have hp415 : ∀ g, v32.ownBlock = some g → g ≠ b0_ := hp40
                    have hs33 := ownR.butF hs33 hx412 (all_pB (fun g hg e => hp415 g hg e.symm))
                    have hz416 := (hx412).size
                    refine TL.yld rfl rfl (yld_add rfl rfl rfl) ?_
                    obtain ⟨x417, hy418, hF⟩ := bsome hF
                    refine TL.ye rfl rfl (ye_index_own (c := C_Clock) rfl Tryd.underlying25 cn_45 rfl rfl hs33 hy418) ?_
                    rintro _ ⟨g419, us421, rfl, hg420, hr422, hcl423⟩
                    have hr422r := hr422
                    obtain rfl := C_Clock_open hr422
                    refine TL.yld rfl rfl (yld_fieldAddr rfl fo_45_2 rfl) ?_
                    refine TL.eff rfl rfl (eff_store_own (c := C_Clock) (us' := [.string x417.Name, .int .i64 x417.Place, .int .i64 (IntKind.wrap IntKind.i64 (100000 + r409.1)), .int .i64 x417.RiseAt, .int .i64 x417.FallAt, .int .i64 x417.Source, .int .i64 x417.Divide, .bool x417.Invert, .int .i64 x417.EarlyLatency, .int .i64 x417.LateLatency, .int .i64 x417.Uncertainty]) (y' := (S_Clock.mk x417.Name x417.Place (IntKind.wrap IntKind.i64 (100000 + r409.1)) x417.RiseAt x417.FallAt x417.Source x417.Divide x417.Invert x417.EarlyLatency x417.LateLatency x417.Uncertainty)) 2 _ rfl rfl rfl hs33 hg420 hy418 rfl cn_2 rfl hr422r hcl423 rfl rfl C_Clock_mk (fun k h => absurd h.2 (Nat.not_lt_zero k))) ?_
                    rintro _ w424 ⟨hu425, hs426⟩
                    have he427 : But (pB b0_) w w424 := But.upd he414 hu425 (Or.inr (by have := hbd34 _ hg420; omega))
                    have hb413 := Box.upd hb413 hu425 (by have := hp40 _ hg420; omega)
                    have hs39 := slRep.upd hs39 hu425 (by have := hbd34 _ hg420; omega)
                    have hz428 := (hu425).size
                    refine TL.done ?_
                    refine NX.blk_n ?_
                    refine NX.seq ?_
                    refine WC.seq ?_
                    refine WC.region ?_
                    refine TL.yld rfl rfl (yld_move rfl rfl) ?_
                    refine TL.yld rfl rfl (yld_assign rfl rfl) ?_
                    refine TL.done ?_
                    refine NX.seq ?_
                    refine WC.ret' ?_
                    obtain rfl := Option.some.inj hF
                    exact NX.end (rs := [.tmp 2]) (vs := [v32]) rfl ⟨rfl, trivial⟩ ⟨_, rfl, _, rfl, ownR.base hs426 (by omega), hb413, he427⟩
                  · intro hc429
                    replace hF := bif_f hc429 hF
                    refine WC.seq ?_
                    refine WC.region ?_
                    refine TL.yld rfl rfl (yld_eql rfl rfl rfl) ?_
                    refine TL.yld rfl rfl (yld_assign rfl rfl) ?_
                    refine TL.done ?_
                    refine NX.seq ?_
                    refine WC.cond rfl ?_ ?_
                    · intro hc430
                      replace hF := bif_t hc430 hF
                      refine WC.block ?_
                      refine WC.loop (fun m440 a wl => ∃ (l433 : List S_Clock) (v434 : Value), Kn 163 [(3, v434)] a ∧ But (pB b0_) w wl ∧ w303.heap.size ≤ wl.heap.size ∧ Box wl b0_ [v1, .int .i64 r301.2.at_, .int .i64 r301.2.seed_] 90 ∧ slRep (cInt .u8) wl (Iv lo3 hi4) a0_s.code_ v1 ∧ ownR C_Clock wl (g10) (Iv 0 0) 45 l433 v434 ∧ (∀ q, v434.ownBlock = some q → g10 ≤ q ∧ q < wl.heap.size) ∧ (∀ g, v434.ownBlock = some g → g ≠ b0_) ∧ F_spec_l14Draw_L2 n (fun l433 => (some (l433, (S_l01Source.mk a0_s.code_ r301.2.at_ r301.2.seed_)))) m440 l433 = some r) n ?_ ?_
                      · intro a hK; exact ⟨l31, v32, hK.weaken ⟨rfl, trivial⟩, he306, Nat.le_refl _, hb305, hs39, hs33, (fun g hg => by have := hbd34 g hg; omega), hp40, hF⟩
                      · rintro m440 a w431 ⟨l433, v434, hK, he432, hz441, hb437, hs438, hs435, hbd436, hp439, hF⟩
                        revert hK; revert a; refine (?_ : WC _ _ _ _ _ _)
                        cases m440 with
                        | zero => rw [F_spec_l14Draw_L2_z] at hF; cases hF
                        | succ m440 =>
                          rw [F_spec_l14Draw_L2_s] at hF
                          refine WC.seq ?_
                          refine WC.seq ?_
                          refine WC.region ?_
                          refine TL.yld rfl rfl (yld_move rfl rfl) ?_
                          refine TL.yld rfl rfl (yld_len_own (c := C_Clock) rfl Tryd.underlying25 rfl hs435) ?_
                          refine TL.yld rfl rfl (yld_lss rfl rfl rfl) ?_
                          refine TL.done ?_
                          refine NX.seq ?_
                          refine WC.cond rfl ?_ ?_
                          · intro hc442
                            replace hF := bif_t hc442 hF
                            refine WC.skip' ?_
                            refine NX.seq ?_
                            refine WC.block ?_
                            refine WC.seq ?_
                            refine WC.region ?_
                            refine TL.yld rfl rfl (yld_move rfl rfl) ?_
                            obtain ⟨x443, hy444, hF⟩ := bsome hF
                            refine TL.ye rfl rfl (ye_index_own (c := C_Clock) rfl Tryd.underlying25 cn_45 rfl rfl hs435 hy444) ?_
                            rintro _ ⟨g445, us447, rfl, hg446, hr448, hcl449⟩
                            have hr448r := hr448
                            obtain rfl := C_Clock_open hr448
                            refine TL.yld rfl rfl (yld_loadN (us := [.string x443.Name, .int .i64 x443.Place, .int .i64 x443.Period, .int .i64 x443.RiseAt, .int .i64 x443.FallAt, .int .i64 x443.Source, .int .i64 x443.Divide, .bool x443.Invert, .int .i64 x443.EarlyLatency, .int .i64 x443.LateLatency, .int .i64 x443.Uncertainty]) rfl ag_45 rfl hcl449 cn_45) ?_
                            refine TL.eff rfl rfl (eff_alloc rfl zn_45) ?_
                            rintro _ w451 ⟨b450, rfl, hn452⟩
                            obtain ⟨hn452e, hn452s, hn452x, hb453⟩ := hn452
                            have hb453 : Box w451 b450 [.string ByteArray.empty, .int .i64 0, .int .i64 0, .int .i64 0, .int .i64 0, .int .i64 0, .int .i64 0, .bool false, .int .i64 0, .int .i64 0, .int .i64 0] 45 := hb453
                            have he455 : But (pB b0_) w w451 := But.ext he432 hn452x
                            have hb437 := Box.ext hb437 hn452x
                            have hs438 := slRep.old hs438 hn452x (by omega)
                            have hs435 := ownR.ext hs435 hn452x
                            have hz456 := (hn452x).size
                            have hlo454 : w.heap.size ≤ b450 := by rw [hn452e]; exact (he432).size
                            refine TL.eff rfl rfl (eff_store rfl rfl rfl hb453 cn_45 rfl rfl) ?_
                            rintro _ w457 ⟨hu458, hb459⟩
                            have he460 : But (pB b0_) w w457 := But.upd he455 hu458 (Or.inr (by omega))
                            have hb437 := Box.upd hb437 hu458 (by omega)
                            have hs438 := slRep.upd hs438 hu458 (by omega)
                            have hs435 := ownR.upd hs435 hu458 (fun g hg => by have := hbd436 g hg; omega)
                            have hz461 := (hu458).size
                            have hb453 : Box w457 b450 [.string x443.Name, .int .i64 x443.Place, .int .i64 x443.Period, .int .i64 x443.RiseAt, .int .i64 x443.FallAt, .int .i64 x443.Source, .int .i64 x443.Divide, .bool x443.Invert, .int .i64 x443.EarlyLatency, .int .i64 x443.LateLatency, .int .i64 x443.Uncertainty] 45 := hb459
                            refine TL.done ?_
                            refine NX.seq ?_
                            refine WC.seq ?_
                            refine WC.region ?_
                            refine TL.yld rfl rfl (yld_move rfl rfl) ?_
                            refine TL.yld rfl rfl (yld_len_own (c := C_Clock) rfl Tryd.underlying25 rfl hs435) ?_
                            obtain ⟨r462, hr463, hF⟩ := bsome hF
                            refine TL.eff rfl rfl (eff_call rfl gf_78 rfl (W_spec_l01Number hr463)) ?_
                            rintro _ w464 ⟨rfl, hx465⟩
                            have he466 : But (pB b0_) w w464 := But.ext he460 hx465
                            have hb437 := Box.ext hb437 hx465
                            have hb453 := Box.ext hb453 hx465
                            have hs438 := slRep.old hs438 hx465 (by omega)
                            have hs435 := ownR.ext hs435 hx465
                            have hz467 := (hx465).size
                            obtain ⟨t468, ht469, hF⟩ := bsome hF
                            refine TL.yld rfl rfl (yld_cat rfl rfl rfl ht469) ?_
                            refine TL.yld rfl rfl (yld_fieldAddr rfl fo_45_0 rfl) ?_
                            refine TL.eff rfl rfl (eff_store rfl rfl rfl hb453 cn_9 rfl rfl) ?_
                            rintro _ w470 ⟨hu471, hb472⟩
                            have he473 : But (pB b0_) w w470 := But.upd he466 hu471 (Or.inr (by omega))
                            have hb437 := Box.upd hb437 hu471 (by omega)
                            have hs438 := slRep.upd hs438 hu471 (by omega)
                            have hs435 := ownR.upd hs435 hu471 (fun g hg => by have := hbd436 g hg; omega)
                            have hz474 := (hu471).size
                            have hb453 : Box w470 b450 [.string t468, .int .i64 x443.Place, .int .i64 x443.Period, .int .i64 x443.RiseAt, .int .i64 x443.FallAt, .int .i64 x443.Source, .int .i64 x443.Divide, .bool x443.Invert, .int .i64 x443.EarlyLatency, .int .i64 x443.LateLatency, .int .i64 x443.Uncertainty] 45 := hb472
                            refine TL.done ?_
                            refine NX.seq ?_
                            refine WC.region ?_
                            refine TL.yld rfl rfl (yld_move rfl rfl) ?_
                            refine TL.yld rfl rfl (yld_loadN (us := [.string t468, .int .i64 x443.Place, .int .i64 x443.Period, .int .i64 x443.RiseAt, .int .i64 x443.FallAt, .int .i64 x443.Source, .int .i64 x443.Divide, .bool x443.Invert, .int .i64 x443.EarlyLatency, .int .i64 x443.LateLatency, .int .i64 x443.Uncertainty]) rfl ag_45 rfl (Box.cells hb453) cn_45) ?_
                            refine TL.eff rfl rfl (eff_buildSlice (c := C_Clock) (xs := [(S_Clock.mk t468 x443.Place x443.Period x443.RiseAt x443.FallAt x443.Source x443.Divide x443.Invert x443.EarlyLatency x443.LateLatency x443.Uncertainty)]) (S := (Iv 0 0)) (uss := [(0, [.string t468, .int .i64 x443.Place, .int .i64 x443.Period, .int .i64 x443.RiseAt, .int .i64 x443.FallAt, .int .i64 x443.Source, .int .i64 x443.Divide, .bool x443.Invert, .int .i64 x443.EarlyLatency, .int .i64 x443.LateLatency, .int .i64 x443.Uncertainty])]) (out := [.string t468, .int .i64 x443.Place, .int .i64 x443.Period, .int .i64 x443.RiseAt, .int .i64 x443.FallAt, .int .i64 x443.Source, .int .i64 x443.Divide, .bool x443.Invert, .int .i64 x443.EarlyLatency, .int .i64 x443.LateLatency, .int .i64 x443.Uncertainty]) rfl Tryd.underlying25 in_45 rfl rfl (fillL_all [[.string t468, .int .i64 x443.Place, .int .i64 x443.Period, .int .i64 x443.RiseAt, .int .i64 x443.FallAt, .int .i64 x443.Source, .int .i64 x443.Divide, .bool x443.Invert, .int .i64 x443.EarlyLatency, .int .i64 x443.LateLatency, .int .i64 x443.Uncertainty]] rfl rfl rfl) rfl rfl rfl rfl (one_rep (uss := [[.string t468, .int .i64 x443.Place, .int .i64 x443.Period, .int .i64 x443.RiseAt, .int .i64 x443.FallAt, .int .i64 x443.Source, .int .i64 x443.Divide, .bool x443.Invert, .int .i64 x443.EarlyLatency, .int .i64 x443.LateLatency, .int .i64 x443.Uncertainty]]) (show reps _ _ _ _ _ from ⟨C_Clock_mk, trivial⟩) rfl) (fun k h => by have := h.2; omega) rfl) ?_
                            rintro v475 w476 ⟨g477, hv478, hg479, hz480, hx481, hs482⟩
                            have he483 : But (pB b0_) w w476 := But.ext he473 hx481
                            have hb437 := Box.ext hb437 hx481
                            have hb453 := Box.ext hb453 hx481
                            have hs438 := slRep.old hs438 hx481 (by omega)
                            have hs435 := ownR.ext hs435 hx481
                            have hz484 := (hx481).size
                            have hlo485 : w.heap.size ≤ g477 := by rw [hg479]; exact (he473).size
                            have hbd486 := bd_of hv478
                            clear hv478
                            obtain ⟨z488, ha489, hF⟩ := bsome hF
                            refine TL.eff rfl rfl (eff_appendF (c := C_Clock) rfl Tryd.underlying25 in_45 rfl rfl rfl rfl rfl hs435 (by omega) (ownR.slf hs482 (Nat.le_refl _) (Nat.le_refl _)) ha489) ?_
                            rintro v490 w491 ⟨hs492, hgr493⟩
                            have he495 : But (pB b0_) w w491 := But.grow he483 hgr493 (fun g hg => (Or.inr (by have := hbd436 g hg; omega)))
                            have hp496 : ∀ g, v490.ownBlock = some g → g ≠ b0_ := Grew.sepP (p := fun g => g ≠ b0_) hgr493 hp439 (fun g hg => by omega)
                            have hb437 := Grew.box hgr493 hb437 hp439
                            have hp497 : ∀ g, v490.ownBlock = some g → g ≠ b450 := Grew.sepP (p := fun g => g ≠ b450) hgr493 (fun g hg => by have := hbd436 g hg; omega) (fun g hg => by omega)
                            have hb453 := Grew.box hgr493 hb453 (fun g hg => by have := hbd436 g hg; omega)
                            have hp498 : ∀ g, v490.ownBlock = some g → g < lo3 ∨ hi4 ≤ g := Grew.sepP (p := fun g => g < lo3 ∨ hi4 ≤ g) hgr493 (fun g hg => by have := hbd436 g hg; omega) (fun g hg => by omega)
                            have hs438 := Grew.slr hgr493 hs438 (fun g hg => by have := hbd436 g hg; omega) (by omega)
                            have hp499 : ∀ g q, v434.ownBlock = some g → v475.ownBlock = some q → g ≠ q := (fun g q hg hq => by have := hbd436 g hg; have := hbd486 q hq; omega)
                            have hp500 : ∀ g q, v490.ownBlock = some g → v475.ownBlock = some q → g ≠ q := fun g q hg hq => Grew.sepP (p := fun g => ∀ q, v475.ownBlock = some q → g ≠ q) hgr493 (fun g hg q hq => (hp499) g q hg hq) (fun g hg q hq => by have := hbd486 q hq; omega) g hg q hq
                            have hs482 := Grew.ownF hgr493 hs482 hp499
                            have hz501 := (hgr493).1.size
                            have hbd502 : ∀ g, v490.ownBlock = some g → g10 ≤ g ∧ g < w491.heap.size := Grew.bd hgr493 hs492 (fun g hg => ⟨by have := hbd436 g hg; omega, (hbd436 g hg).2⟩) (by omega) (by omega)
                            refine TL.yld rfl rfl (yld_assign rfl rfl) ?_
                            refine TL.done ?_
                            refine NX.blk_n ?_
                            refine NX.then_n ?_
                            intro a hK; exact ⟨m440, Nat.lt_succ_self m440, z488, v490, hK.weaken ⟨rfl, trivial⟩, he495, (by omega), hb437, hs438, hs492, (fun g hg => by have := hbd502 g hg; omega), hp496, hF⟩
                          · intro hc503
                            replace hF := bif_f hc503 hF
                            refine WC.exit' ?_
                            refine NX.then_e ?_
                            refine NX.then_e ?_
                            refine NX.blk_hit ?_
                            refine NX.blk_n ?_
                            refine NX.seq ?_
                            refine WC.seq ?_
                            refine WC.region ?_
                            refine TL.yld rfl rfl (yld_move rfl rfl) ?_
                            refine TL.yld rfl rfl (yld_assign rfl rfl) ?_
                            refine TL.done ?_
                            refine NX.seq ?_
                            refine WC.ret' ?_
                            obtain rfl := Option.some.inj hF
                            exact NX.end (rs := [.tmp 2]) (vs := [v434]) rfl ⟨rfl, trivial⟩ ⟨_, rfl, _, rfl, ownR.base hs435 (by omega), hb437, he432⟩
                    · intro hc504
                      replace hF := bif_f hc504 hF
                      refine WC.skip' ?_
                      refine NX.blk_n ?_
                      refine NX.seq ?_
                      refine WC.seq ?_
                      refine WC.region ?_
                      refine TL.yld rfl rfl (yld_move rfl rfl) ?_
                      refine TL.yld rfl rfl (yld_assign rfl rfl) ?_
                      refine TL.done ?_
                      refine NX.seq ?_
                      refine WC.ret' ?_
                      obtain rfl := Option.some.inj hF
                      exact NX.end (rs := [.tmp 2]) (vs := [v32]) rfl ⟨rfl, trivial⟩ ⟨_, rfl, _, rfl, ownR.base hs33 (by omega), hb305, he306⟩

-- loop.example/g00861/spec.l14DrawIndex
def F_spec_l14DrawIndex (n : Nat) (a0_s : S_l01Source) (a1_list : List S_Clock) : Option (Int × S_l01Source) := (Option.bind (F_spec_l01Next n a0_s 20) fun r14 => (bif (r14.1 == 0) then (Option.bind (F_spec_l01Next n ((S_l01Source.mk a0_s.code_ r14.2.at_ r14.2.seed_)) 2) fun r35 => (Option.bind (getI ([(-1), (a1_list.length : Int)]) r35.1) fun x43 => (some (x43, (S_l01Source.mk a0_s.code_ r35.2.at_ r35.2.seed_))))) else (Option.bind (F_spec_l01Next n ((S_l01Source.mk a0_s.code_ r14.2.at_ r14.2.seed_)) ((a1_list.length : Int))) fun r51 => (some (r51.1, (S_l01Source.mk a0_s.code_ r51.2.at_ r51.2.seed_))))))
set_option maxHeartbeats 40000000 in
theorem W_spec_l14DrawIndex {n : Nat} {a0_s : S_l01Source} {a1_list : List S_Clock} {r : Int × S_l01Source} {w : World} {v1 : Value} {lo3 hi4 : Nat} {b0_ : Nat} {v6 : Value} {lo8 hi9 : Nat} (hF : F_spec_l14DrawIndex n a0_s a1_list = some r) (hb5 : Box w b0_ [v1, .int .i64 a0_s.at_, .int .i64 a0_s.seed_] 90) (ha2 : slRep (cInt .u8) w (Iv lo3 hi4) a0_s.code_ v1) (hh10 : hi4 ≤ w.heap.size) (hh11 : b0_ < lo3 ∨ hi4 ≤ b0_) (ha7 : slRep C_Clock w (Iv lo8 hi9) a1_list v6) (hh12 : hi9 ≤ w.heap.size) (hh13 : b0_ < lo8 ∨ hi9 ≤ b0_) :
    Calls Tryd.prog 58 [.pointer (some ⟨b0_, 0, none⟩), v6].toArray w (Ret fun u w2 => u = .int .i64 r.1 ∧ Box w2 b0_ [v1, .int .i64 r.2.at_, .int .i64 r.2.seed_] 90 ∧ But (pB b0_) w w2) := by
  refine calls_of Tryd.func58 rfl Tryd.ntmps58 ?_
  have he0 : But (pB b0_) w w := But.refl _ w
  have := Box.lt hb5
  unfold F_spec_l14DrawIndex at hF
  refine WC.seq ?_
  refine WC.region ?_
  refine TL.yld rfl rfl (yld_assign rfl rfl) ?_
  refine TL.done ?_
  refine NX.seq ?_
  refine WC.seq ?_
  refine WC.seq ?_
  refine WC.region ?_
  refine TL.yld rfl rfl (yld_move rfl rfl) ?_
  obtain ⟨r14, hr15, hF⟩ := bsome hF
  refine TL.eff rfl rfl (eff_call rfl gf_69 rfl (W_spec_l01Next hr15 hb5 ha2 (by omega) (by omega))) ?_
  rintro _ w16 ⟨rfl, hb18, hx17⟩
  have he19 : But (pB b0_) w w16 := But.but he0 hx17 (all_pB (Or.inl rfl))
  have ha7 := slRep.but ha7 hx17 (all_pB (by omega)) (by omega)
  have ha2 := slRep.but ha2 hx17 (all_pB (by omega)) (by omega)
  have hz20 := (hx17).size
  refine TL.yld rfl rfl (yld_eql rfl rfl rfl) ?_
  refine TL.done ?_
  refine NX.seq ?_
  refine WC.cond rfl ?_ ?_
  · intro hc21
    replace hF := bif_t hc21 hF
    refine WC.seq ?_
    refine WC.region ?_
    refine TL.yld rfl rfl (yld_move rfl rfl) ?_
    refine TL.yld rfl rfl (ye_len (c := C_Clock) rfl Tryd.underlying25 rfl ha7) ?_
    refine TL.eff rfl rfl (eff_buildSlice (c := (cInt .i64)) (xs := [(-1), (a1_list.length : Int)]) (S := (Iv 0 0)) (uss := [(0, [.int .i64 (-1)]), (1, [.int .i64 ((a1_list.length : Int))])]) (out := [.int .i64 (-1), .int .i64 ((a1_list.length : Int))]) rfl Tryd.underlying46 in_2 rfl rfl (fillL_all [[.int .i64 (-1)], [.int .i64 ((a1_list.length : Int))]] rfl rfl rfl) rfl rfl rfl rfl (one_rep (uss := [[.int .i64 (-1)], [.int .i64 ((a1_list.length : Int))]]) (show reps _ _ _ _ _ from ⟨rfl, rfl, trivial⟩) rfl) (fun k h => by have := h.2; omega) rfl) ?_
    rintro v22 w23 ⟨g24, hv25, hg26, hz27, hx28, hs29⟩
    have he30 : But (pB b0_) w w23 := But.ext he19 hx28
    have hb18 := Box.ext hb18 hx28
    have ha7 := slRep.old ha7 hx28 (by omega)
    have ha2 := slRep.old ha2 hx28 (by omega)
    have hz31 := (hx28).size
    have hlo32 : w.heap.size ≤ g24 := by rw [hg26]; exact (he19).size
    have hbd33 := bd_of hv25
    clear hv25
    refine TL.yld rfl rfl (yld_move rfl rfl) ?_
    obtain ⟨r35, hr36, hF⟩ := bsome hF
    refine TL.eff rfl rfl (eff_call rfl gf_69 rfl (W_spec_l01Next hr36 hb18 ha2 (by omega) (by omega))) ?_
    rintro _ w37 ⟨rfl, hb39, hx38⟩
    have he40 : But (pB b0_) w w37 := But.but he30 hx38 (all_pB (Or.inl rfl))
    have ha7 := slRep.but ha7 hx38 (all_pB (by omega)) (by omega)
    have ha2 := slRep.but ha2 hx38 (all_pB (by omega)) (by omega)
    have hp41 : ∀ g, v22.ownBlock = some g → g ≠ b0_ := (fun g hg => by have := hbd33 g hg; omega)
    have hs29 := ownR.butF hs29 hx38 (all_pB (fun g hg e => hp41 g hg e.symm))
    have hz42 := (hx38).size
    obtain ⟨x43, hy44, hF⟩ := bsome hF
    refine TL.ye rfl rfl (ye_index_own (c := (cInt .i64)) rfl Tryd.underlying46 cn_2 rfl rfl hs29 hy44) ?_
    rintro _ ⟨g45, us47, rfl, hg46, hr48, hcl49⟩
    have hr48r := hr48
    obtain rfl := hr48
    refine TL.yld rfl rfl (yld_load1 0 rfl ag_2 rfl hcl49 rfl rfl) ?_
    refine TL.yld rfl rfl (yld_assign rfl rfl) ?_
    refine TL.done ?_
    refine NX.seq ?_
    refine WC.ret' ?_
    refine NX.then_r ?_
    obtain rfl := Option.some.inj hF
    exact NX.end (rs := [.tmp 4]) (vs := [.int .i64 x43]) rfl ⟨rfl, trivial⟩ ⟨_, rfl, rfl, hb39, he40⟩
  · intro hc50
    replace hF := bif_f hc50 hF
    refine WC.skip' ?_
    refine NX.seq ?_
    refine WC.seq ?_
    refine WC.region ?_
    refine TL.yld rfl rfl (yld_move rfl rfl) ?_
    refine TL.yld rfl rfl (yld_move rfl rfl) ?_
    refine TL.yld rfl rfl (ye_len (c := C_Clock) rfl Tryd.underlying25 rfl ha7) ?_
    obtain ⟨r51, hr52, hF⟩ := bsome hF
    refine TL.eff rfl rfl (eff_call rfl gf_69 rfl (W_spec_l01Next hr52 hb18 ha2 (by omega) (by omega))) ?_
    rintro _ w53 ⟨rfl, hb55, hx54⟩
    have he56 : But (pB b0_) w w53 := But.but he19 hx54 (all_pB (Or.inl rfl))
    have ha7 := slRep.but ha7 hx54 (all_pB (by omega)) (by omega)
    have ha2 := slRep.but ha2 hx54 (all_pB (by omega)) (by omega)
    have hz57 := (hx54).size
    refine TL.yld rfl rfl (yld_assign rfl rfl) ?_
    refine TL.done ?_
    refine NX.seq ?_
    refine WC.ret' ?_
    obtain rfl := Option.some.inj hF
    exact NX.end (rs := [.tmp 4]) (vs := [.int .i64 r51.1]) rfl ⟨rfl, trivial⟩ ⟨_, rfl, rfl, hb55, he56⟩

-- loop.example/g00861/spec.DrawLevelAt
def F_spec_DrawLevelAt (n : Nat) (a0_code : List Int) : Option ((List S_Clock) × Int × Int) := (Option.bind (F_spec_l01From n a0_code) fun r3 => (Option.bind (F_spec_l14Draw n ((S_l01Source.mk a0_code r3.at_ r3.seed_))) fun r12 => (Option.bind (F_spec_l01Next n ((S_l01Source.mk a0_code r12.2.at_ r12.2.seed_)) 16) fun r23 => (bif (r23.1 == 0) then (Option.bind (F_spec_l14DrawIndex n ((S_l01Source.mk a0_code r23.2.at_ r23.2.seed_)) r12.1) fun r32 => (Option.bind (F_spec_l01Next n ((S_l01Source.mk a0_code r32.2.at_ r32.2.seed_)) 4) fun r53 => (Option.bind (getI ([1000000000, 1000000001, (-1000000000), (-1000000001)]) r53.1) fun x62 => (some (r12.1, r32.1, x62))))) else (Option.bind (F_spec_l14DrawIndex n ((S_l01Source.mk a0_code r23.2.at_ r23.2.seed_)) r12.1) fun r176 => (Option.bind (F_spec_l01Next n ((S_l01Source.mk a0_code r176.2.at_ r176.2.seed_)) 200) fun r184 => (some (r12.1, r176.1, IntKind.wrap IntKind.i64 (r184.1 - 100)))))))))
set_option maxHeartbeats 40000000 in
theorem W_spec_DrawLevelAt {n : Nat} {a0_code : List Int} {r : (List S_Clock) × Int × Int} {w : World} {v1 : Value} (hF : F_spec_DrawLevelAt n a0_code = some r) (ha2 : slRep (cInt .u8) w (Iv 0 w.heap.size) a0_code v1) :
    Calls Tryd.prog 38 [v1].toArray w (Ret fun u w2 => ∃ v0_0, u = .tuple #[v0_0, .int .i64 r.2.1, .int .i64 r.2.2] ∧ ownR C_Clock w2 w.heap.size (Iv 0 0) 45 r.1 v0_0 ∧ Ext w w2) := by
  refine calls_of Tryd.func38 rfl Tryd.ntmps38 ?_
  have he0 : Ext w w := Ext.refl w
  unfold F_spec_DrawLevelAt at hF
  refine WC.seq ?_
  refine WC.region ?_
  refine TL.yld rfl rfl (yld_assign rfl rfl) ?_
  refine TL.yld rfl rfl (yld_assign rfl rfl) ?_
  refine TL.yld rfl rfl (yld_assign rfl rfl) ?_
  refine TL.done ?_
  refine NX.seq ?_
  refine WC.seq ?_
  refine WC.region ?_
  refine TL.yld rfl rfl (yld_move rfl rfl) ?_
  obtain ⟨r3, hr4, hF⟩ := bsome hF
  refine TL.eff rfl rfl (eff_call rfl gf_56 rfl (W_spec_l01From hr4 ((slRep.old ha2 he0 (Nat.le_refl _)).wide (Nat.le_refl _) (he0).size))) ?_
  rintro _ w5 ⟨b7, rfl, hb8, hlo9, hx6⟩
  have he10 : Ext w w5 := Ext.trans he0 hx6
  have hz11 := (hx6).size
  have := hlo9
  have := Box.lt hb8
  refine TL.yld rfl rfl (yld_assign rfl rfl) ?_
  refine TL.done ?_
  refine NX.seq ?_
  refine WC.seq ?_
  refine WC.region ?_
  refine TL.yld rfl rfl (yld_move rfl rfl) ?_
  obtain ⟨r12, hr13, hF⟩ := bsome hF
  refine TL.eff rfl rfl (eff_call rfl gf_57 rfl (W_spec_l14Draw hr13 hb8 (slRep.old ha2 he10 (Nat.le_refl _)) (by omega) (by omega))) ?_
  rintro v16 w14 ⟨_, rfl, hs17, hb20, hx15⟩
  have he21 : Ext w w14 := Below.trans he10 (But.below hx15 (all_pB (by omega)) (he10).size)
  have hz22 := (hx15).size
  have hbd19 := ownR.blk hs17
  refine TL.yld rfl rfl (yld_assign rfl rfl) ?_
  refine TL.done ?_
  refine NX.seq ?_
  refine WC.seq ?_
  refine WC.seq ?_
  refine WC.region ?_
  refine TL.yld rfl rfl (yld_move rfl rfl) ?_
  obtain ⟨r23, hr24, hF⟩ := bsome hF
  refine TL.eff rfl rfl (eff_call rfl gf_69 rfl (W_spec_l01Next hr24 hb20 (slRep.old ha2 he21 (Nat.le_refl _)) (by omega) (by omega))) ?_
  rintro _ w25 ⟨rfl, hb27, hx26⟩
  have he28 : Ext w w25 := Below.trans he21 (But.below hx26 (all_pB (by omega)) (he21).size)
  have hp29 : ∀ g, v16.ownBlock = some g → g ≠ b7 := (fun g hg => by have := hbd19 g hg; omega)
  have hs17 := ownR.butF hs17 hx26 (all_pB (fun g hg e => hp29 g hg e.symm))
  have hz30 := (hx26).size
  refine TL.yld rfl rfl (yld_eql rfl rfl rfl) ?_
  refine TL.done ?_
  refine NX.seq ?_
  refine WC.cond rfl ?_ ?_
  · intro hc31
    replace hF := bif_t hc31 hF
    refine WC.seq ?_
    obtain ⟨r32, hr33, hF⟩ := bsome hF
    obtain ⟨r53, hr54, hF⟩ := bsome hF
    obtain ⟨x62, hy63, hF⟩ := bsome hF
    refine WC.join (fun a wl => Kn 30 [(2, v16), (3, .int .i64 r32.1), (4, .int .i64 x62)] a ∧ Ext w wl ∧ w25.heap.size ≤ wl.heap.size ∧ ownR C_Clock wl (w5.heap.size) (Iv 0 0) 45 r12.1 v16) ?_ ?_
    ·
      refine WC.heldG (p := (pB b7)) 11 Tryd.hm fun w73 hx74 => ?_
      have he75 : Ext w w73 := Ext.trans he28 hx74
      have hb27 := Box.ext hb27 hx74
      have hs17 := ownR.ext hs17 hx74
      have hz76 := (hx74).size
      refine HLG.yld 0 (by kernel_rfl) rfl (by kernel_rfl) rfl rfl (fun wx hbx => (yld_move rfl rfl)) ?_
      refine HLG.yld 1 (by kernel_rfl) rfl (by kernel_rfl) rfl rfl (fun wx hbx => (yld_move rfl rfl)) ?_
      refine HLG.yld 2 (by kernel_rfl) rfl (by kernel_rfl) rfl rfl (fun wx hbx => (yld_move rfl rfl)) ?_
      refine HLG.yld 5 (by kernel_rfl) rfl (by kernel_rfl) rfl rfl (fun wx hbx => (yld_move rfl rfl)) ?_
      refine HLG.many (js := [3, 4]) (by kernel_rfl) rfl (all_two ?_ ?_)
      ·
        refine HGB.eff 3 rfl rfl (by kernel_rfl) rfl rfl (eff_call rfl gf_58 rfl (W_spec_l14DrawIndex hr33 hb27 (slRep.old ha2 he75 (Nat.le_refl _)) (by omega) (by omega) (ownR.slb hs17 hbd19) (by omega) (by have := trivial; omega))) ?_
        rintro _ w77 ⟨rfl, hb79, hx78⟩
        have he80 : Ext w w77 := Below.trans he75 (But.below hx78 (all_pB (by omega)) (he75).size)
        have hp81 : ∀ g, v16.ownBlock = some g → g ≠ b7 := (fun g hg => by have := hbd19 g hg; omega)
        have hs17 := ownR.butF hs17 hx78 (all_pB (fun g hg e => hp81 g hg e.symm))
        have hz82 := (hx78).size
        have hbs83 : But (pB b7) w73 w77 := (But.but (But.refl _ w73) hx78 (all_pB (Or.inl rfl)))
        refine ⟨hbs83, ?_⟩
        refine HLG.many (js := [4, 6]) (by kernel_rfl) rfl (all_two ?_ ?_)
        ·
          refine HGB.eff 4 rfl rfl (by kernel_rfl) rfl rfl (eff_buildSlice (c := (cInt .i64)) (xs := [1000000000, 1000000001, (-1000000000), (-1000000001)]) (S := (Iv 0 0)) (uss := [(0, [.int .i64 1000000000]), (1, [.int .i64 1000000001]), (2, [.int .i64 (-1000000000)]), (3, [.int .i64 (-1000000001)])]) (out := [.int .i64 1000000000, .int .i64 1000000001, .int .i64 (-1000000000), .int .i64 (-1000000001)]) rfl Tryd.underlying46 in_2 rfl rfl (fillL_all [[.int .i64 1000000000], [.int .i64 1000000001], [.int .i64 (-1000000000)], [.int .i64 (-1000000001)]] rfl rfl rfl) rfl rfl rfl rfl (one_rep (uss := [[.int .i64 1000000000], [.int .i64 1000000001], [.int .i64 (-1000000000)], [.int .i64 (-1000000001)]]) (show reps _ _ _ _ _ from ⟨rfl, rfl, rfl, rfl, trivial⟩) rfl) (fun k h => by have := h.2; omega) rfl) ?_
          rintro v84 w85 ⟨g86, hv87, hg88, hz89, hx90, hs91⟩
          have he92 : Ext w w85 := Ext.trans he80 hx90
          have hb79 := Box.ext hb79 hx90
          have hs17 := ownR.ext hs17 hx90
          have hz93 := (hx90).size
          have hlo94 : w.heap.size ≤ g86 := by rw [hg88]; exact (he80).size
          have hbd95 := bd_of hv87
          clear hv87
          have hbs97 : But (pB b7) w73 w85 := (But.ext hbs83 hx90)
          refine ⟨hbs97, ?_⟩
          refine HLG.eff 6 rfl rfl (by kernel_rfl) rfl rfl (eff_call rfl gf_69 rfl (W_spec_l01Next hr54 hb79 (slRep.old ha2 he92 (Nat.le_refl _)) (by omega) (by omega))) ?_
          rintro _ w98 ⟨rfl, hb100, hx99⟩
          have he101 : Ext w w98 := Below.trans he92 (But.below hx99 (all_pB (by omega)) (he92).size)
          have hp102 : ∀ g, v16.ownBlock = some g → g ≠ b7 := (fun g hg => by have := hbd19 g hg; omega)
          have hs17 := ownR.butF hs17 hx99 (all_pB (fun g hg e => hp102 g hg e.symm))
          have hp103 : ∀ g, v84.ownBlock = some g → g ≠ b7 := (fun g hg => by have := hbd95 g hg; omega)
          have hs91 := ownR.butF hs91 hx99 (all_pB (fun g hg e => hp103 g hg e.symm))
          have hz104 := (hx99).size
          have hbs105 : But (pB b7) w73 w98 := (But.but hbs97 hx99 (all_pB (Or.inl rfl)))
          refine ⟨hbs105, ?_⟩
          refine HLG.shrink ?_
          refine HLG.ya 7 (by kernel_rfl) rfl (by kernel_rfl) rfl rfl (ya_index_own (c := (cInt .i64)) rfl Tryd.underlying46 cn_2 rfl rfl hs91 hy63) ?_
          rintro _ ⟨g106, us108, rfl, hg107, hr109, hcl110⟩
          have hr109r := hr109
          obtain rfl := hr109
          refine HLG.yld 8 (by kernel_rfl) rfl (by kernel_rfl) rfl rfl (fun wx hbx => (have hp111 : ∀ g, v84.ownBlock = some g → g ≠ b7 := (fun g hg => by have := hbd95 g hg; omega); have hcl110 := CellsAt.but hcl110 hbx (all_pB ((hp111 _ hg107).symm)) (by have := hbd95 _ hg107; omega); (yld_load1 0 rfl ag_2 rfl hcl110 rfl rfl))) ?_
          refine HLG.yld 9 (by kernel_rfl) rfl (by kernel_rfl) rfl rfl (fun wx hbx => (yld_assign rfl rfl)) ?_
          refine HLG.yld 10 (by kernel_rfl) rfl (by kernel_rfl) rfl rfl (fun wx hbx => (yld_assign rfl rfl)) ?_
          refine HLG.tail rfl (by kernel_rfl) rfl ?_
          refine TL.yld rfl rfl (yld_assign rfl rfl) ?_
          refine TL.noPan (l := []) ?_
          exact fun a hK => ⟨rfl, hK.weaken ⟨rfl, rfl, rfl, trivial⟩, he101, (by omega), hs17⟩
        ·
          refine HGB.eff 6 rfl rfl (by kernel_rfl) rfl rfl (eff_call rfl gf_69 rfl (W_spec_l01Next hr54 hb79 (slRep.old ha2 he80 (Nat.le_refl _)) (by omega) (by omega))) ?_
          rintro _ w112 ⟨rfl, hb114, hx113⟩
          have he115 : Ext w w112 := Below.trans he80 (But.below hx113 (all_pB (by omega)) (he80).size)
          have hp116 : ∀ g, v16.ownBlock = some g → g ≠ b7 := (fun g hg => by have := hbd19 g hg; omega)
          have hs17 := ownR.butF hs17 hx113 (all_pB (fun g hg e => hp116 g hg e.symm))
          have hz117 := (hx113).size
          have hbs118 : But (pB b7) w73 w112 := (But.but hbs83 hx113 (all_pB (Or.inl rfl)))
          refine ⟨hbs118, ?_⟩
          refine HLG.yld 9 (by kernel_rfl) rfl (by kernel_rfl) rfl rfl (fun wx hbx => (yld_assign rfl rfl)) ?_
          refine HLG.yld 10 (by kernel_rfl) rfl (by kernel_rfl) rfl rfl (fun wx hbx => (yld_assign rfl rfl)) ?_
          refine HLG.eff 4 rfl rfl (by kernel_rfl) rfl rfl (eff_buildSlice (c := (cInt .i64)) (xs := [1000000000, 1000000001, (-1000000000), (-1000000001)]) (S := (Iv 0 0)) (uss := [(0, [.int .i64 1000000000]), (1, [.int .i64 1000000001]), (2, [.int .i64 (-1000000000)]), (3, [.int .i64 (-1000000001)])]) (out := [.int .i64 1000000000, .int .i64 1000000001, .int .i64 (-1000000000), .int .i64 (-1000000001)]) rfl Tryd.underlying46 in_2 rfl rfl (fillL_all [[.int .i64 1000000000], [.int .i64 1000000001], [.int .i64 (-1000000000)], [.int .i64 (-1000000001)]] rfl rfl rfl) rfl rfl rfl rfl (one_rep (uss := [[.int .i64 1000000000], [.int .i64 1000000001], [.int .i64 (-1000000000)], [.int .i64 (-1000000001)]]) (show reps _ _ _ _ _ from ⟨rfl, rfl, rfl, rfl, trivial⟩) rfl) (fun k h => by have := h.2; omega) rfl) ?_
          rintro v119 w120 ⟨g121, hv122, hg123, hz124, hx125, hs126⟩
          have he127 : Ext w w120 := Ext.trans he115 hx125
          have hb114 := Box.ext hb114 hx125
          have hs17 := ownR.ext hs17 hx125
          have hz128 := (hx125).size
          have hlo129 : w.heap.size ≤ g121 := by rw [hg123]; exact (he115).size
          have hbd130 := bd_of hv122
          clear hv122
          have hbs132 : But (pB b7) w73 w120 := (But.ext hbs118 hx125)
          refine ⟨hbs132, ?_⟩
          refine HLG.shrink ?_
          refine HLG.ya 7 (by kernel_rfl) rfl (by kernel_rfl) rfl rfl (ya_index_own (c := (cInt .i64)) rfl Tryd.underlying46 cn_2 rfl rfl hs126 hy63) ?_
          rintro _ ⟨g133, us135, rfl, hg134, hr136, hcl137⟩
          have hr136r := hr136
          obtain rfl := hr136
          refine HLG.yld 8 (by kernel_rfl) rfl (by kernel_rfl) rfl rfl (fun wx hbx => (have hp138 : ∀ g, v119.ownBlock = some g → g ≠ b7 := (fun g hg => by have := hbd130 g hg; omega); have hcl137 := CellsAt.but hcl137 hbx (all_pB ((hp138 _ hg134).symm)) (by have := hbd130 _ hg134; omega); (yld_load1 0 rfl ag_2 rfl hcl137 rfl rfl))) ?_
          refine HLG.tail rfl (by kernel_rfl) rfl ?_
          refine TL.yld rfl rfl (yld_assign rfl rfl) ?_
          refine TL.noPan (l := []) ?_
          exact fun a hK => ⟨rfl, hK.weaken ⟨rfl, rfl, rfl, trivial⟩, he127, (by omega), hs17⟩
      ·
        refine HGB.eff 4 rfl rfl (by kernel_rfl) rfl rfl (eff_buildSlice (c := (cInt .i64)) (xs := [1000000000, 1000000001, (-1000000000), (-1000000001)]) (S := (Iv 0 0)) (uss := [(0, [.int .i64 1000000000]), (1, [.int .i64 1000000001]), (2, [.int .i64 (-1000000000)]), (3, [.int .i64 (-1000000001)])]) (out := [.int .i64 1000000000, .int .i64 1000000001, .int .i64 (-1000000000), .int .i64 (-1000000001)]) rfl Tryd.underlying46 in_2 rfl rfl (fillL_all [[.int .i64 1000000000], [.int .i64 1000000001], [.int .i64 (-1000000000)], [.int .i64 (-1000000001)]] rfl rfl rfl) rfl rfl rfl rfl (one_rep (uss := [[.int .i64 1000000000], [.int .i64 1000000001], [.int .i64 (-1000000000)], [.int .i64 (-1000000001)]]) (show reps _ _ _ _ _ from ⟨rfl, rfl, rfl, rfl, trivial⟩) rfl) (fun k h => by have := h.2; omega) rfl) ?_
        rintro v139 w140 ⟨g141, hv142, hg143, hz144, hx145, hs146⟩
        have he147 : Ext w w140 := Ext.trans he75 hx145
        have hb27 := Box.ext hb27 hx145
        have hs17 := ownR.ext hs17 hx145
        have hz148 := (hx145).size
        have hlo149 : w.heap.size ≤ g141 := by rw [hg143]; exact (he75).size
        have hbd150 := bd_of hv142
        clear hv142
        have hbs152 : But (pB b7) w73 w140 := (But.ext (But.refl _ w73) hx145)
        refine ⟨hbs152, ?_⟩
        refine HLG.eff 3 rfl rfl (by kernel_rfl) rfl rfl (eff_call rfl gf_58 rfl (W_spec_l14DrawIndex hr33 hb27 (slRep.old ha2 he147 (Nat.le_refl _)) (by omega) (by omega) (ownR.slb hs17 hbd19) (by omega) (by have := trivial; omega))) ?_
        rintro _ w153 ⟨rfl, hb155, hx154⟩
        have he156 : Ext w w153 := Below.trans he147 (But.below hx154 (all_pB (by omega)) (he147).size)
        have hp157 : ∀ g, v16.ownBlock = some g → g ≠ b7 := (fun g hg => by have := hbd19 g hg; omega)
        have hs17 := ownR.butF hs17 hx154 (all_pB (fun g hg e => hp157 g hg e.symm))
        have hp158 : ∀ g, v139.ownBlock = some g → g ≠ b7 := (fun g hg => by have := hbd150 g hg; omega)
        have hs146 := ownR.butF hs146 hx154 (all_pB (fun g hg e => hp158 g hg e.symm))
        have hz159 := (hx154).size
        have hbs160 : But (pB b7) w73 w153 := (But.but hbs152 hx154 (all_pB (Or.inl rfl)))
        refine ⟨hbs160, ?_⟩
        refine HLG.eff 6 rfl rfl (by kernel_rfl) rfl rfl (eff_call rfl gf_69 rfl (W_spec_l01Next hr54 hb155 (slRep.old ha2 he156 (Nat.le_refl _)) (by omega) (by omega))) ?_
        rintro _ w161 ⟨rfl, hb163, hx162⟩
        have he164 : Ext w w161 := Below.trans he156 (But.below hx162 (all_pB (by omega)) (he156).size)
        have hp165 : ∀ g, v16.ownBlock = some g → g ≠ b7 := (fun g hg => by have := hbd19 g hg; omega)
        have hs17 := ownR.butF hs17 hx162 (all_pB (fun g hg e => hp165 g hg e.symm))
        have hp166 : ∀ g, v139.ownBlock = some g → g ≠ b7 := (fun g hg => by have := hbd150 g hg; omega)
        have hs146 := ownR.butF hs146 hx162 (all_pB (fun g hg e => hp166 g hg e.symm))
        have hz167 := (hx162).size
        have hbs168 : But (pB b7) w73 w161 := (But.but hbs160 hx162 (all_pB (Or.inl rfl)))
        refine ⟨hbs168, ?_⟩
        refine HLG.shrink ?_
        refine HLG.ya 7 (by kernel_rfl) rfl (by kernel_rfl) rfl rfl (ya_index_own (c := (cInt .i64)) rfl Tryd.underlying46 cn_2 rfl rfl hs146 hy63) ?_
        rintro _ ⟨g169, us171, rfl, hg170, hr172, hcl173⟩
        have hr172r := hr172
        obtain rfl := hr172
        refine HLG.yld 8 (by kernel_rfl) rfl (by kernel_rfl) rfl rfl (fun wx hbx => (have hp174 : ∀ g, v139.ownBlock = some g → g ≠ b7 := (fun g hg => by have := hbd150 g hg; omega); have hcl173 := CellsAt.but hcl173 hbx (all_pB ((hp174 _ hg170).symm)) (by have := hbd150 _ hg170; omega); (yld_load1 0 rfl ag_2 rfl hcl173 rfl rfl))) ?_
        refine HLG.yld 9 (by kernel_rfl) rfl (by kernel_rfl) rfl rfl (fun wx hbx => (yld_assign rfl rfl)) ?_
        refine HLG.yld 10 (by kernel_rfl) rfl (by kernel_rfl) rfl rfl (fun wx hbx => (yld_assign rfl rfl)) ?_
        refine HLG.tail rfl (by kernel_rfl) rfl ?_
        refine TL.yld rfl rfl (yld_assign rfl rfl) ?_
        refine TL.noPan (l := []) ?_
        exact fun a hK => ⟨rfl, hK.weaken ⟨rfl, rfl, rfl, trivial⟩, he164, (by omega), hs17⟩
    ·
      rintro a w69 ⟨hK, he70, hz72, hs71⟩
      revert hK; revert a; refine (?_ : NX _ _ _ _ _)
      refine NX.seq ?_
      refine WC.ret' ?_
      refine NX.then_r ?_
      obtain rfl := Option.some.inj hF
      exact NX.end (rs := [.tmp 2, .tmp 3, .tmp 4]) (vs := [v16, .int .i64 r32.1, .int .i64 x62]) rfl ⟨rfl, rfl, rfl, trivial⟩ ⟨_, rfl, _, rfl, ownR.base hs71 (by omega), he70⟩
  · intro hc175
    replace hF := bif_f hc175 hF
    refine WC.skip' ?_
    refine NX.seq ?_
    refine WC.seq ?_
    refine WC.region ?_
    refine TL.yld rfl rfl (yld_move rfl rfl) ?_
    refine TL.yld rfl rfl (yld_move rfl rfl) ?_
    refine TL.yld rfl rfl (yld_move rfl rfl) ?_
    obtain ⟨r176, hr177, hF⟩ := bsome hF
    refine TL.eff rfl rfl (eff_call rfl gf_58 rfl (W_spec_l14DrawIndex hr177 hb27 (slRep.old ha2 he28 (Nat.le_refl _)) (by omega) (by omega) (ownR.slb hs17 hbd19) (by omega) (by have := trivial; omega))) ?_
    rintro _ w178 ⟨rfl, hb180, hx179⟩
    have he181 : Ext w w178 := Below.trans he28 (But.below hx179 (all_pB (by omega)) (he28).size)
    have hp182 : ∀ g, v16.ownBlock = some g → g ≠ b7 := (fun g hg => by have := hbd19 g hg; omega)
    have hs17 := ownR.butF hs17 hx179 (all_pB (fun g hg e => hp182 g hg e.symm))
    have hz183 := (hx179).size
    refine TL.yld rfl rfl (yld_move rfl rfl) ?_
    obtain ⟨r184, hr185, hF⟩ := bsome hF
    refine TL.eff rfl rfl (eff_call rfl gf_69 rfl (W_spec_l01Next hr185 hb180 (slRep.old ha2 he181 (Nat.le_refl _)) (by omega) (by omega))) ?_
    rintro _ w186 ⟨rfl, hb188, hx187⟩
    have he189 : Ext w w186 := Below.trans he181 (But.below hx187 (all_pB (by omega)) (he181).size)
    have hp190 : ∀ g, v16.ownBlock = some g → g ≠ b7 := (fun g hg => by have := hbd19 g hg; omega)
    have hs17 := ownR.butF hs17 hx187 (all_pB (fun g hg e => hp190 g hg e.symm))
    have hz191 := (hx187).size
    refine TL.yld rfl rfl (yld_sub rfl rfl rfl) ?_
    refine TL.yld rfl rfl (yld_assign rfl rfl) ?_
    refine TL.yld rfl rfl (yld_assign rfl rfl) ?_
    refine TL.yld rfl rfl (yld_assign rfl rfl) ?_
    refine TL.done ?_
    refine NX.seq ?_
    refine WC.ret' ?_
    obtain rfl := Option.some.inj hF
    exact NX.end (rs := [.tmp 2, .tmp 3, .tmp 4]) (vs := [v16, .int .i64 r176.1, .int .i64 (IntKind.wrap IntKind.i64 (r184.1 - 100))]) rfl ⟨rfl, rfl, rfl, trivial⟩ ⟨_, rfl, _, rfl, ownR.base hs17 (by omega), he189⟩

-- loop.example/g00861/laws.FnWaves
def F_laws_FnWaves (n : Nat) (a0_code : List Int) : Option Bool := (Option.bind (F_laws_big n a0_code) fun r3 => (bif r3 then (some true) else (Option.bind (F_spec_DrawLevelAt n a0_code) fun r11 => (Option.bind (F_impl_WaveOf n r11.1 r11.2.1) fun r21 => (Option.bind (F_spec_WaveOf n r11.1 r11.2.1) fun r27 => (bif (((((((r21.2.2.2 != r27.2.2.2)) || ((r21.1 != r27.1)))) || ((r21.2.1 != r27.2.1)))) || ((r21.2.2.1 != r27.2.2.1))) then (some false) else (bif (r21.2.2.2 != 0) then (some true) else (bif ((decide (r11.2.2 > 900000000)) || (decide (r11.2.2 < (-900000000)))) then (some true) else (Option.bind (F_impl_EdgesIn n r11.1 r11.2.1 0 r11.2.2 (IntKind.wrap IntKind.i64 ((IntKind.wrap IntKind.i64 (r11.2.2 + r21.1)) - 1))) fun r59 => (Option.bind (F_impl_EdgesIn n r11.1 r11.2.1 1 r11.2.2 (IntKind.wrap IntKind.i64 ((IntKind.wrap IntKind.i64 (r11.2.2 + r21.1)) - 1))) fun r69 => (bif (((((((r59.2 != 0)) || ((r69.2 != 0)))) || ((((r59.1.length : Int)) != 1)))) || ((((r69.1.length : Int)) != 1))) then (some false) else (Option.bind (F_impl_EdgesIn n r11.1 r11.2.1 0 (IntKind.wrap IntKind.i64 (r11.2.2 + r21.1)) (IntKind.wrap IntKind.i64 ((IntKind.wrap IntKind.i64 (r11.2.2 + (IntKind.wrap IntKind.i64 (2 * r21.1)))) - 1))) fun r96 => (Option.bind (bif (((r96.2 != 0)) || ((((r96.1.length : Int)) != 1))) then (some true) else (Option.bind (getI r96.1 0) fun x107 => (Option.bind (getI r59.1 0) fun x114 => (some ((x107 != (IntKind.wrap IntKind.i64 (x114 + r21.1)))))))) fun c107 => (bif c107 then (some false) else (Option.bind (F_impl_LevelAt n r11.1 r11.2.1 r11.2.2) fun r130 => (Option.bind (getI r59.1 0) fun x136 => (Option.bind (F_impl_LevelAt n r11.1 r11.2.1 x136) fun r143 => (Option.bind (getI r69.1 0) fun x149 => (Option.bind (F_impl_LevelAt n r11.1 r11.2.1 x149) fun r156 => (Option.bind (getI r69.1 0) fun x162 => (Option.bind (getI r59.1 0) fun x169 => (bif decide (x162 < x169) then (Option.bind (getI r59.1 0) fun x181 => (bif (x181 == r11.2.2) then (Option.bind (getI r69.1 0) fun x189 => (bif (x189 == r11.2.2) then (some (((((((((IntKind.wrap IntKind.i64 ((IntKind.wrap IntKind.i64 (r130.2 + r143.2)) + r156.2)) == 0)) && ((r143.1 == 1)))) && ((r156.1 == 0)))) && ((r130.1 == 0))))) else (some (((((((((IntKind.wrap IntKind.i64 ((IntKind.wrap IntKind.i64 (r130.2 + r143.2)) + r156.2)) == 0)) && ((r143.1 == 1)))) && ((r156.1 == 0)))) && ((r130.1 == 1))))))) else (Option.bind (getI r69.1 0) fun x229 => (bif (x229 == r11.2.2) then (some (((((((((IntKind.wrap IntKind.i64 ((IntKind.wrap IntKind.i64 (r130.2 + r143.2)) + r156.2)) == 0)) && ((r143.1 == 1)))) && ((r156.1 == 0)))) && ((r130.1 == 0))))) else (some (((((((((IntKind.wrap IntKind.i64 ((IntKind.wrap IntKind.i64 (r130.2 + r143.2)) + r156.2)) == 0)) && ((r143.1 == 1)))) && ((r156.1 == 0)))) && ((r130.1 == 1))))))))) else (Option.bind (getI r59.1 0) fun x269 => (bif (x269 == r11.2.2) then (Option.bind (getI r69.1 0) fun x277 => (bif (x277 == r11.2.2) then (some (((((((((IntKind.wrap IntKind.i64 ((IntKind.wrap IntKind.i64 (r130.2 + r143.2)) + r156.2)) == 0)) && ((r143.1 == 1)))) && ((r156.1 == 0)))) && ((r130.1 == 0))))) else (some (((((((((IntKind.wrap IntKind.i64 ((IntKind.wrap IntKind.i64 (r130.2 + r143.2)) + r156.2)) == 0)) && ((r143.1 == 1)))) && ((r156.1 == 0)))) && ((r130.1 == 1))))))) else (Option.bind (getI r69.1 0) fun x317 => (bif (x317 == r11.2.2) then (some (((((((((IntKind.wrap IntKind.i64 ((IntKind.wrap IntKind.i64 (r130.2 + r143.2)) + r156.2)) == 0)) && ((r143.1 == 1)))) && ((r156.1 == 0)))) && ((r130.1 == 0))))) else (some (((((((((IntKind.wrap IntKind.i64 ((IntKind.wrap IntKind.i64 (r130.2 + r143.2)) + r156.2)) == 0)) && ((r143.1 == 1)))) && ((r156.1 == 0)))) && ((r130.1 == 0)))))))))))))))))))))))))))))))
set_option maxHeartbeats 40000000 in
theorem W_laws_FnWaves {n : Nat} {a0_code : List Int} {r : Bool} {w : World} {v1 : Value} (hF : F_laws_FnWaves n a0_code = some r) (ha2 : slRep (cInt .u8) w (Iv 0 w.heap.size) a0_code v1) :
    Calls Tryd.prog 13 [v1].toArray w (Ret fun u w2 => u = .bool r ∧ Ext w w2) := by
  refine calls_of Tryd.func13 rfl Tryd.ntmps13 ?_
  have he0 : Ext w w := Ext.refl w
  unfold F_laws_FnWaves at hF
  refine WC.seq ?_
  refine WC.region ?_
  refine TL.yld rfl rfl (yld_assign rfl rfl) ?_
  refine TL.done ?_
  refine NX.seq ?_
  refine WC.seq ?_
  refine WC.seq ?_
  refine WC.region ?_
  refine TL.yld rfl rfl (yld_move rfl rfl) ?_
  obtain ⟨r3, hr4, hF⟩ := bsome hF
  refine TL.eff rfl rfl (eff_call rfl gf_22 rfl (W_laws_big hr4 ((slRep.old ha2 he0 (Nat.le_refl _)).wide (Nat.le_refl _) (he0).size))) ?_
  rintro _ w5 ⟨rfl, hx6⟩
  have he7 : Ext w w5 := Ext.trans he0 hx6
  have hz8 := (hx6).size
  refine TL.done ?_
  refine NX.seq ?_
  refine WC.cond rfl ?_ ?_
  · intro hc9
    replace hF := bif_t hc9 hF
    refine WC.seq ?_
    refine WC.region ?_
    refine TL.yld rfl rfl (yld_assign rfl rfl) ?_
    refine TL.done ?_
    refine NX.seq ?_
    refine WC.ret' ?_
    refine NX.then_r ?_
    obtain rfl := Option.some.inj hF
    exact NX.end (rs := [.tmp 2]) (vs := [.bool true]) rfl ⟨rfl, trivial⟩ ⟨_, rfl, rfl, he7⟩
  · intro hc10
    replace hF := bif_f hc10 hF
    refine WC.skip' ?_
    refine NX.seq ?_
    refine WC.seq ?_
    refine WC.region ?_
    refine TL.yld rfl rfl (yld_move rfl rfl) ?_
    obtain ⟨r11, hr12, hF⟩ := bsome hF
    refine TL.eff rfl rfl (eff_call rfl gf_38 rfl (W_spec_DrawLevelAt hr12 ((slRep.old ha2 he7 (Nat.le_refl _)).wide (Nat.le_refl _) (he7).size))) ?_
    rintro _ w13 ⟨v15, rfl, hs16, hx14⟩
    have he19 : Ext w w13 := Ext.trans he7 hx14
    have hz20 := (hx14).size
    have hbd18 := ownR.blk hs16
    refine TL.yld rfl rfl (yld_move rfl rfl) ?_
    refine TL.yld rfl rfl (yld_extract rfl rfl rfl) ?_
    refine TL.yld rfl rfl (yld_extract rfl rfl rfl) ?_
    refine TL.yld rfl rfl (yld_extract rfl rfl rfl) ?_
    refine TL.yld rfl rfl (yld_assign rfl rfl) ?_
    refine TL.yld rfl rfl (yld_assign rfl rfl) ?_
    refine TL.yld rfl rfl (yld_assign rfl rfl) ?_
    refine TL.done ?_
    refine NX.seq ?_
    refine WC.seq ?_
    refine WC.region ?_
    refine TL.yld rfl rfl (yld_move rfl rfl) ?_
    refine TL.yld rfl rfl (yld_move rfl rfl) ?_
    obtain ⟨r21, hr22, hF⟩ := bsome hF
    refine TL.eff rfl rfl (eff_call rfl gf_21 rfl (W_impl_WaveOf hr22 (ownR.slf hs16 (Nat.zero_le _) (Nat.le_refl _)))) ?_
    rintro _ w23 ⟨rfl, hx24⟩
    have he25 : Ext w w23 := Ext.trans he19 hx24
    have hs16 := ownR.ext hs16 hx24
    have hz26 := (hx24).size
    refine TL.yld rfl rfl (yld_move rfl rfl) ?_
    refine TL.yld rfl rfl (yld_extract rfl rfl rfl) ?_
    refine TL.yld rfl rfl (yld_extract rfl rfl rfl) ?_
    refine TL.yld rfl rfl (yld_extract rfl rfl rfl) ?_
    refine TL.yld rfl rfl (yld_extract rfl rfl rfl) ?_
    refine TL.yld rfl rfl (yld_assign rfl rfl) ?_
    refine TL.yld rfl rfl (yld_assign rfl rfl) ?_
    refine TL.yld rfl rfl (yld_assign rfl rfl) ?_
    refine TL.yld rfl rfl (yld_assign rfl rfl) ?_
    refine TL.done ?_
    refine NX.seq ?_
    refine WC.seq ?_
    refine WC.region ?_
    refine TL.yld rfl rfl (yld_move rfl rfl) ?_
    refine TL.yld rfl rfl (yld_move rfl rfl) ?_
    obtain ⟨r27, hr28, hF⟩ := bsome hF
    refine TL.eff rfl rfl (eff_call rfl gf_20 rfl (W_spec_WaveOf hr28 (ownR.slf hs16 (Nat.zero_le _) (Nat.le_refl _)))) ?_
    rintro _ w29 ⟨rfl, hx30⟩
    have he31 : Ext w w29 := Ext.trans he25 hx30
    have hs16 := ownR.ext hs16 hx30
    have hz32 := (hx30).size
    refine TL.yld rfl rfl (yld_move rfl rfl) ?_
    refine TL.yld rfl rfl (yld_extract rfl rfl rfl) ?_
    refine TL.yld rfl rfl (yld_extract rfl rfl rfl) ?_
    refine TL.yld rfl rfl (yld_extract rfl rfl rfl) ?_
    refine TL.yld rfl rfl (yld_extract rfl rfl rfl) ?_
    refine TL.yld rfl rfl (yld_assign rfl rfl) ?_
    refine TL.yld rfl rfl (yld_assign rfl rfl) ?_
    refine TL.yld rfl rfl (yld_assign rfl rfl) ?_
    refine TL.yld rfl rfl (yld_assign rfl rfl) ?_
    refine TL.done ?_
    refine NX.seq ?_
    refine WC.seq ?_
    refine WC.seq ?_
    refine WC.region ?_
    refine TL.yld rfl rfl (yld_move rfl rfl) ?_
    refine TL.yld rfl rfl (yld_move rfl rfl) ?_
    refine TL.yld rfl rfl (yld_neq rfl rfl rfl) ?_
    refine TL.yld rfl rfl (yld_move rfl rfl) ?_
    refine TL.cut 4 [(3, v15), (4, .int .i64 r11.2.1), (5, .int .i64 r11.2.2), (6, .int .i64 r21.1), (7, .int .i64 r21.2.1), (8, .int .i64 r21.2.2.1), (9, .int .i64 r21.2.2.2), (11, .int .i64 r27.2.1), (12, .int .i64 r27.2.2.1), (58, .bool ((((r21.2.2.2 != r27.2.2.2)) || ((r21.1 != r27.1)))))] (fun w' => Ext w29 w') ?_ ?_
    · rcases Bool.eq_false_or_eq_true ((r21.2.2.2 != r27.2.2.2)) with hg33 | hg33
      ·
        refine TL.gnu (j := 3) (t := 54) rfl rfl rfl hg33 rfl ?_
        refine TL.gnu (j := 3) (t := 54) rfl rfl rfl hg33 rfl ?_
        refine TL.gnu (j := 3) (t := 54) rfl rfl rfl hg33 rfl ?_
        refine TL.yld rfl rfl (yld_or_t (b2 := (r21.1 != r27.1)) rfl rfl hg33 rfl) ?_
        exact TL.nil fun a h => ⟨h.weaken ⟨rfl, rfl, rfl, rfl, rfl, rfl, rfl, rfl, rfl, rfl, trivial⟩, Ext.refl _⟩
      ·
        refine TL.gy (j := 3) (t := 54) rfl rfl rfl hg33 rfl (yld_move rfl rfl) ?_
        refine TL.gy (j := 3) (t := 54) rfl rfl rfl hg33 rfl (yld_move rfl rfl) ?_
        refine TL.gy (j := 3) (t := 54) rfl rfl rfl hg33 rfl (yld_neq rfl rfl rfl) ?_
        refine TL.yld rfl rfl (yld_or_f rfl rfl hg33 rfl) ?_
        exact TL.nil fun a h => ⟨h.weaken ⟨rfl, rfl, rfl, rfl, rfl, rfl, rfl, rfl, rfl, rfl, trivial⟩, Ext.refl _⟩
    intro w34 hx35
    have he36 : Ext w w34 := Ext.trans he31 hx35
    have hs16 := ownR.ext hs16 hx35
    have hz37 := (hx35).size
    refine TL.yld rfl rfl (yld_move rfl rfl) ?_
    refine TL.cut 4 [(3, v15), (4, .int .i64 r11.2.1), (5, .int .i64 r11.2.2), (6, .int .i64 r21.1), (8, .int .i64 r21.2.2.1), (9, .int .i64 r21.2.2.2), (12, .int .i64 r27.2.2.1), (63, .bool ((((((r21.2.2.2 != r27.2.2.2)) || ((r21.1 != r27.1)))) || ((r21.2.1 != r27.2.1)))))] (fun w' => Ext w34 w') ?_ ?_
    · rcases Bool.eq_false_or_eq_true ((((r21.2.2.2 != r27.2.2.2)) || ((r21.1 != r27.1)))) with hg38 | hg38
      ·
        refine TL.gnu (j := 8) (t := 59) rfl rfl rfl hg38 rfl ?_
        refine TL.gnu (j := 8) (t := 59) rfl rfl rfl hg38 rfl ?_
        refine TL.gnu (j := 8) (t := 59) rfl rfl rfl hg38 rfl ?_
        refine TL.yld rfl rfl (yld_or_t (b2 := (r21.2.1 != r27.2.1)) rfl rfl hg38 rfl) ?_
        exact TL.nil fun a h => ⟨h.weaken ⟨rfl, rfl, rfl, rfl, rfl, rfl, rfl, rfl, trivial⟩, Ext.refl _⟩
      ·
        refine TL.gy (j := 8) (t := 59) rfl rfl rfl hg38 rfl (yld_move rfl rfl) ?_
        refine TL.gy (j := 8) (t := 59) rfl rfl rfl hg38 rfl (yld_move rfl rfl) ?_
        refine TL.gy (j := 8) (t := 59) rfl rfl rfl hg38 rfl (yld_neq rfl rfl rfl) ?_
        refine TL.yld rfl rfl (yld_or_f rfl rfl hg38 rfl) ?_
        exact TL.nil fun a h => ⟨h.weaken ⟨rfl, rfl, rfl, rfl, rfl, rfl, rfl, rfl, trivial⟩, Ext.refl _⟩
    intro w39 hx40
    have he41 : Ext w w39 := Ext.trans he36 hx40
    have hs16 := ownR.ext hs16 hx40
    have hz42 := (hx40).size
    refine TL.yld rfl rfl (yld_move rfl rfl) ?_
    refine TL.cut 4 [(3, v15), (4, .int .i64 r11.2.1), (5, .int .i64 r11.2.2), (6, .int .i64 r21.1), (9, .int .i64 r21.2.2.2), (68, .bool ((((((((r21.2.2.2 != r27.2.2.2)) || ((r21.1 != r27.1)))) || ((r21.2.1 != r27.2.1)))) || ((r21.2.2.1 != r27.2.2.1)))))] (fun w' => Ext w39 w') ?_ ?_
    · rcases Bool.eq_false_or_eq_true ((((((r21.2.2.2 != r27.2.2.2)) || ((r21.1 != r27.1)))) || ((r21.2.1 != r27.2.1)))) with hg43 | hg43
      ·
        refine TL.gnu (j := 13) (t := 64) rfl rfl rfl hg43 rfl ?_
        refine TL.gnu (j := 13) (t := 64) rfl rfl rfl hg43 rfl ?_
        refine TL.gnu (j := 13) (t := 64) rfl rfl rfl hg43 rfl ?_
        refine TL.yld rfl rfl (yld_or_t (b2 := (r21.2.2.1 != r27.2.2.1)) rfl rfl hg43 rfl) ?_
        exact TL.nil fun a h => ⟨h.weaken ⟨rfl, rfl, rfl, rfl, rfl, rfl, trivial⟩, Ext.refl _⟩
      ·
        refine TL.gy (j := 13) (t := 64) rfl rfl rfl hg43 rfl (yld_move rfl rfl) ?_
        refine TL.gy (j := 13) (t := 64) rfl rfl rfl hg43 rfl (yld_move rfl rfl) ?_
        refine TL.gy (j := 13) (t := 64) rfl rfl rfl hg43 rfl (yld_neq rfl rfl rfl) ?_
        refine TL.yld rfl rfl (yld_or_f rfl rfl hg43 rfl) ?_
        exact TL.nil fun a h => ⟨h.weaken ⟨rfl, rfl, rfl, rfl, rfl, rfl, trivial⟩, Ext.refl _⟩
    intro w44 hx45
    have he46 : Ext w w44 := Ext.trans he41 hx45
    have hs16 := ownR.ext hs16 hx45
    have hz47 := (hx45).size
    refine TL.done ?_
    refine NX.seq ?_
    refine WC.cond rfl ?_ ?_
    · intro hc48
      replace hF := bif_t hc48 hF
      refine WC.seq ?_
      refine WC.region ?_
      refine TL.yld rfl rfl (yld_assign rfl rfl) ?_
      refine TL.done ?_
      refine NX.seq ?_
      refine WC.ret' ?_
      refine NX.then_r ?_
      obtain rfl := Option.some.inj hF
      exact NX.end (rs := [.tmp 2]) (vs := [.bool false]) rfl ⟨rfl, trivial⟩ ⟨_, rfl, rfl, he46⟩
    · intro hc49
      replace hF := bif_f hc49 hF
      refine WC.skip' ?_
      refine NX.seq ?_
      refine WC.seq ?_
      refine WC.seq ?_
      refine WC.region ?_
      refine TL.yld rfl rfl (yld_move rfl rfl) ?_
      refine TL.yld rfl rfl (yld_neq rfl rfl rfl) ?_
      refine TL.done ?_
      refine NX.seq ?_
      refine WC.cond rfl ?_ ?_
      · intro hc50
        replace hF := bif_t hc50 hF
        refine WC.seq ?_
        refine WC.region ?_
        refine TL.yld rfl rfl (yld_assign rfl rfl) ?_
        refine TL.done ?_
        refine NX.seq ?_
        refine WC.ret' ?_
        refine NX.then_r ?_
        obtain rfl := Option.some.inj hF
        exact NX.end (rs := [.tmp 2]) (vs := [.bool true]) rfl ⟨rfl, trivial⟩ ⟨_, rfl, rfl, he46⟩
      · intro hc51
        replace hF := bif_f hc51 hF
        refine WC.skip' ?_
        refine NX.seq ?_
        refine WC.seq ?_
        refine WC.seq ?_
        refine WC.region ?_
        refine TL.yld rfl rfl (yld_move rfl rfl) ?_
        refine TL.yld rfl rfl (yld_gtr rfl rfl rfl) ?_
        refine TL.yld rfl rfl (yld_move rfl rfl) ?_
        refine TL.cut 3 [(3, v15), (4, .int .i64 r11.2.1), (5, .int .i64 r11.2.2), (6, .int .i64 r21.1), (76, .bool (((decide (r11.2.2 > 900000000)) || (decide (r11.2.2 < (-900000000))))))] (fun w' => Ext w44 w') ?_ ?_
        · rcases Bool.eq_false_or_eq_true (decide (r11.2.2 > 900000000)) with hg52 | hg52
          ·
            refine TL.gnu (j := 2) (t := 73) rfl rfl rfl hg52 rfl ?_
            refine TL.gnu (j := 2) (t := 73) rfl rfl rfl hg52 rfl ?_
            refine TL.yld rfl rfl (yld_or_t (b2 := decide (r11.2.2 < (-900000000))) rfl rfl hg52 rfl) ?_
            exact TL.nil fun a h => ⟨h.weaken ⟨rfl, rfl, rfl, rfl, rfl, trivial⟩, Ext.refl _⟩
          ·
            refine TL.gy (j := 2) (t := 73) rfl rfl rfl hg52 rfl (yld_move rfl rfl) ?_
            refine TL.gy (j := 2) (t := 73) rfl rfl rfl hg52 rfl (yld_lss rfl rfl rfl) ?_
            refine TL.yld rfl rfl (yld_or_f rfl rfl hg52 rfl) ?_
            exact TL.nil fun a h => ⟨h.weaken ⟨rfl, rfl, rfl, rfl, rfl, trivial⟩, Ext.refl _⟩
        intro w53 hx54
        have he55 : Ext w w53 := Ext.trans he46 hx54
        have hs16 := ownR.ext hs16 hx54
        have hz56 := (hx54).size
        refine TL.done ?_
        refine NX.seq ?_
        refine WC.cond rfl ?_ ?_
        · intro hc57
          replace hF := bif_t hc57 hF
          refine WC.seq ?_
          refine WC.region ?_
          refine TL.yld rfl rfl (yld_assign rfl rfl) ?_
          refine TL.done ?_
          refine NX.seq ?_
          refine WC.ret' ?_
          refine NX.then_r ?_
          obtain rfl := Option.some.inj hF
          exact NX.end (rs := [.tmp 2]) (vs := [.bool true]) rfl ⟨rfl, trivial⟩ ⟨_, rfl, rfl, he55⟩
        · intro hc58
          replace hF := bif_f hc58 hF
          refine WC.skip' ?_
          refine NX.seq ?_
          refine WC.seq ?_
          refine WC.region ?_
          refine TL.yld rfl rfl (yld_move rfl rfl) ?_
          refine TL.yld rfl rfl (yld_move rfl rfl) ?_
          refine TL.yld rfl rfl (yld_move rfl rfl) ?_
          refine TL.yld rfl rfl (yld_move rfl rfl) ?_
          refine TL.yld rfl rfl (yld_move rfl rfl) ?_
          refine TL.yld rfl rfl (yld_add rfl rfl rfl) ?_
          refine TL.yld rfl rfl (yld_sub rfl rfl rfl) ?_
          obtain ⟨r59, hr60, hF⟩ := bsome hF
          refine TL.eff rfl rfl (eff_call rfl gf_35 rfl (W_impl_EdgesIn hr60 (ownR.slf hs16 (Nat.zero_le _) (Nat.le_refl _)))) ?_
          rintro _ w61 ⟨v63, rfl, hs64, hx62⟩
          have he67 : Ext w w61 := Ext.trans he55 hx62
          have hs16 := ownR.ext hs16 hx62
          have hz68 := (hx62).size
          have hbd66 := ownR.blk hs64
          refine TL.yld rfl rfl (yld_move rfl rfl) ?_
          refine TL.yld rfl rfl (yld_extract rfl rfl rfl) ?_
          refine TL.yld rfl rfl (yld_extract rfl rfl rfl) ?_
          refine TL.yld rfl rfl (yld_assign rfl rfl) ?_
          refine TL.yld rfl rfl (yld_assign rfl rfl) ?_
          refine TL.done ?_
          refine NX.seq ?_
          refine WC.seq ?_
          refine WC.region ?_
          refine TL.yld rfl rfl (yld_move rfl rfl) ?_
          refine TL.yld rfl rfl (yld_move rfl rfl) ?_
          refine TL.yld rfl rfl (yld_move rfl rfl) ?_
          refine TL.yld rfl rfl (yld_move rfl rfl) ?_
          refine TL.yld rfl rfl (yld_move rfl rfl) ?_
          refine TL.yld rfl rfl (yld_add rfl rfl rfl) ?_
          refine TL.yld rfl rfl (yld_sub rfl rfl rfl) ?_
          obtain ⟨r69, hr70, hF⟩ := bsome hF
          refine TL.eff rfl rfl (eff_call rfl gf_35 rfl (W_impl_EdgesIn hr70 (ownR.slf hs16 (Nat.zero_le _) (Nat.le_refl _)))) ?_
          rintro _ w71 ⟨v73, rfl, hs74, hx72⟩
          have he77 : Ext w w71 := Ext.trans he67 hx72
          have hs16 := ownR.ext hs16 hx72
          have hs64 := ownR.ext hs64 hx72
          have hz78 := (hx72).size
          have hbd76 := ownR.blk hs74
          refine TL.yld rfl rfl (yld_move rfl rfl) ?_
          refine TL.yld rfl rfl (yld_extract rfl rfl rfl) ?_
          refine TL.yld rfl rfl (yld_extract rfl rfl rfl) ?_
          refine TL.yld rfl rfl (yld_assign rfl rfl) ?_
          refine TL.yld rfl rfl (yld_assign rfl rfl) ?_
          refine TL.done ?_
          refine NX.seq ?_
          refine WC.seq ?_
          refine WC.seq ?_
          refine WC.region ?_
          refine TL.yld rfl rfl (yld_move rfl rfl) ?_
          refine TL.yld rfl rfl (yld_neq rfl rfl rfl) ?_
          refine TL.yld rfl rfl (yld_move rfl rfl) ?_
          refine TL.cut 3 [(3, v15), (4, .int .i64 r11.2.1), (5, .int .i64 r11.2.2), (6, .int .i64 r21.1), (14, v63), (16, v73), (104, .bool ((((r59.2 != 0)) || ((r69.2 != 0)))))] (fun w' => Ext w71 w') ?_ ?_
          · rcases Bool.eq_false_or_eq_true ((r59.2 != 0)) with hg79 | hg79
            ·
              refine TL.gnu (j := 2) (t := 101) rfl rfl rfl hg79 rfl ?_
              refine TL.gnu (j := 2) (t := 101) rfl rfl rfl hg79 rfl ?_
              refine TL.yld rfl rfl (yld_or_t (b2 := (r69.2 != 0)) rfl rfl hg79 rfl) ?_
              exact TL.nil fun a h => ⟨h.weaken ⟨rfl, rfl, rfl, rfl, rfl, rfl, rfl, trivial⟩, Ext.refl _⟩
            ·
              refine TL.gy (j := 2) (t := 101) rfl rfl rfl hg79 rfl (yld_move rfl rfl) ?_
              refine TL.gy (j := 2) (t := 101) rfl rfl rfl hg79 rfl (yld_neq rfl rfl rfl) ?_
              refine TL.yld rfl rfl (yld_or_f rfl rfl hg79 rfl) ?_
              exact TL.nil fun a h => ⟨h.weaken ⟨rfl, rfl, rfl, rfl, rfl, rfl, rfl, trivial⟩, Ext.refl _⟩
          intro w80 hx81
          have he82 : Ext w w80 := Ext.trans he77 hx81
          have hs16 := ownR.ext hs16 hx81
          have hs64 := ownR.ext hs64 hx81
          have hs74 := ownR.ext hs74 hx81
          have hz83 := (hx81).size
          refine TL.yld rfl rfl (yld_move rfl rfl) ?_
          refine TL.cut 4 [(3, v15), (4, .int .i64 r11.2.1), (5, .int .i64 r11.2.2), (6, .int .i64 r21.1), (14, v63), (16, v73), (109, .bool ((((((r59.2 != 0)) || ((r69.2 != 0)))) || ((((r59.1.length : Int)) != 1)))))] (fun w' => Ext w80 w') ?_ ?_
          · rcases Bool.eq_false_or_eq_true ((((r59.2 != 0)) || ((r69.2 != 0)))) with hg84 | hg84
            ·
              refine TL.gnu (j := 6) (t := 105) rfl rfl rfl hg84 rfl ?_
              refine TL.gnu (j := 6) (t := 105) rfl rfl rfl hg84 rfl ?_
              refine TL.gnu (j := 6) (t := 105) rfl rfl rfl hg84 rfl ?_
              refine TL.yld rfl rfl (yld_or_t (b2 := (((r59.1.length : Int)) != 1)) rfl rfl hg84 rfl) ?_
              exact TL.nil fun a h => ⟨h.weaken ⟨rfl, rfl, rfl, rfl, rfl, rfl, rfl, trivial⟩, Ext.refl _⟩
            ·
              refine TL.gy (j := 6) (t := 105) rfl rfl rfl hg84 rfl (yld_move rfl rfl) ?_
              refine TL.gy (j := 6) (t := 105) rfl rfl rfl hg84 rfl (yld_len_own (c := (cInt .i64)) rfl Tryd.underlying46 rfl hs64) ?_
              refine TL.gy (j := 6) (t := 105) rfl rfl rfl hg84 rfl (yld_neq rfl rfl rfl) ?_
              refine TL.yld rfl rfl (yld_or_f rfl rfl hg84 rfl) ?_
              exact TL.nil fun a h => ⟨h.weaken ⟨rfl, rfl, rfl, rfl, rfl, rfl, rfl, trivial⟩, Ext.refl _⟩
          intro w85 hx86
          have he87 : Ext w w85 := Ext.trans he82 hx86
          have hs16 := ownR.ext hs16 hx86
          have hs64 := ownR.ext hs64 hx86
          have hs74 := ownR.ext hs74 hx86
          have hz88 := (hx86).size
          refine TL.yld rfl rfl (yld_move rfl rfl) ?_
          refine TL.cut 4 [(3, v15), (4, .int .i64 r11.2.1), (5, .int .i64 r11.2.2), (6, .int .i64 r21.1), (14, v63), (16, v73), (114, .bool ((((((((r59.2 != 0)) || ((r69.2 != 0)))) || ((((r59.1.length : Int)) != 1)))) || ((((r69.1.length : Int)) != 1)))))] (fun w' => Ext w85 w') ?_ ?_
          · rcases Bool.eq_false_or_eq_true ((((((r59.2 != 0)) || ((r69.2 != 0)))) || ((((r59.1.length : Int)) != 1)))) with hg89 | hg89
            ·
              refine TL.gnu (j := 11) (t := 110) rfl rfl rfl hg89 rfl ?_
              refine TL.gnu (j := 11) (t := 110) rfl rfl rfl hg89 rfl ?_
              refine TL.gnu (j := 11) (t := 110) rfl rfl rfl hg89 rfl ?_
              refine TL.yld rfl rfl (yld_or_t (b2 := (((r69.1.length : Int)) != 1)) rfl rfl hg89 rfl) ?_
              exact TL.nil fun a h => ⟨h.weaken ⟨rfl, rfl, rfl, rfl, rfl, rfl, rfl, trivial⟩, Ext.refl _⟩
            ·
              refine TL.gy (j := 11) (t := 110) rfl rfl rfl hg89 rfl (yld_move rfl rfl) ?_
              refine TL.gy (j := 11) (t := 110) rfl rfl rfl hg89 rfl (yld_len_own (c := (cInt .i64)) rfl Tryd.underlying46 rfl hs74) ?_
              refine TL.gy (j := 11) (t := 110) rfl rfl rfl hg89 rfl (yld_neq rfl rfl rfl) ?_
              refine TL.yld rfl rfl (yld_or_f rfl rfl hg89 rfl) ?_
              exact TL.nil fun a h => ⟨h.weaken ⟨rfl, rfl, rfl, rfl, rfl, rfl, rfl, trivial⟩, Ext.refl _⟩
          intro w90 hx91
          have he92 : Ext w w90 := Ext.trans he87 hx91
          have hs16 := ownR.ext hs16 hx91
          have hs64 := ownR.ext hs64 hx91
          have hs74 := ownR.ext hs74 hx91
          have hz93 := (hx91).size
          refine TL.done ?_
          refine NX.seq ?_
          refine WC.cond rfl ?_ ?_
          · intro hc94
            replace hF := bif_t hc94 hF
            refine WC.seq ?_
            refine WC.region ?_
            refine TL.yld rfl rfl (yld_assign rfl rfl) ?_
            refine TL.done ?_
            refine NX.seq ?_
            refine WC.ret' ?_
            refine NX.then_r ?_
            obtain rfl := Option.some.inj hF
            exact NX.end (rs := [.tmp 2]) (vs := [.bool false]) rfl ⟨rfl, trivial⟩ ⟨_, rfl, rfl, he92⟩
          · intro hc95
            replace hF := bif_f hc95 hF
            refine WC.skip' ?_
            refine NX.seq ?_
            refine WC.seq ?_
            refine WC.region ?_
            refine TL.yld rfl rfl (yld_move rfl rfl) ?_
            refine TL.yld rfl rfl (yld_move rfl rfl) ?_
            refine TL.yld rfl rfl (yld_move rfl rfl) ?_
            refine TL.yld rfl rfl (yld_move rfl rfl) ?_
            refine TL.yld rfl rfl (yld_add rfl rfl rfl) ?_
            refine TL.yld rfl rfl (yld_move rfl rfl) ?_
            refine TL.yld rfl rfl (yld_move rfl rfl) ?_
            refine TL.yld rfl rfl (yld_mul rfl rfl rfl) ?_
            refine TL.yld rfl rfl (yld_add rfl rfl rfl) ?_
            refine TL.yld rfl rfl (yld_sub rfl rfl rfl) ?_
            obtain ⟨r96, hr97, hF⟩ := bsome hF
            refine TL.eff rfl rfl (eff_call rfl gf_35 rfl (W_impl_EdgesIn hr97 (ownR.slf hs16 (Nat.zero_le _) (Nat.le_refl _)))) ?_
            rintro _ w98 ⟨v100, rfl, hs101, hx99⟩
            have he104 : Ext w w98 := Ext.trans he92 hx99
            have hs16 := ownR.ext hs16 hx99
            have hs64 := ownR.ext hs64 hx99
            have hs74 := ownR.ext hs74 hx99
            have hz105 := (hx99).size
            have hbd103 := ownR.blk hs101
            refine TL.yld rfl rfl (yld_move rfl rfl) ?_
            refine TL.yld rfl rfl (yld_extract rfl rfl rfl) ?_
            refine TL.yld rfl rfl (yld_extract rfl rfl rfl) ?_
            refine TL.yld rfl rfl (yld_assign rfl rfl) ?_
            refine TL.yld rfl rfl (yld_assign rfl rfl) ?_
            refine TL.done ?_
            refine NX.seq ?_
            refine WC.seq ?_
            refine WC.seq ?_
            refine WC.quiet Tryd.hm (by kernel_rfl) ?_
            refine QL.yld rfl rfl (Yld.qui (yld_move rfl rfl)) ?_
            refine QL.yld rfl rfl (Yld.qui (yld_neq rfl rfl rfl)) ?_
            refine QL.yld rfl rfl (Yld.qui (yld_move rfl rfl)) ?_
            refine QL.cut 4 [(3, v15), (4, .int .i64 r11.2.1), (5, .int .i64 r11.2.2), (6, .int .i64 r21.1), (14, v63), (16, v73), (18, v100), (135, .bool ((((r96.2 != 0)) || ((((r96.1.length : Int)) != 1)))))] ?_ ?_
            · rcases Bool.eq_false_or_eq_true ((r96.2 != 0)) with hg106 | hg106
              ·
                refine QL.gnu (j := 2) (t := 131) rfl rfl rfl hg106 rfl ?_
                refine QL.gnu (j := 2) (t := 131) rfl rfl rfl hg106 rfl ?_
                refine QL.gnu (j := 2) (t := 131) rfl rfl rfl hg106 rfl ?_
                refine QL.yld rfl rfl (Yld.qui (yld_or_t (b2 := (((r96.1.length : Int)) != 1)) rfl rfl hg106 rfl)) ?_
                exact QL.nil fun a h => h.weaken ⟨rfl, rfl, rfl, rfl, rfl, rfl, rfl, rfl, trivial⟩
              ·
                refine QL.gy (j := 2) (t := 131) rfl rfl rfl hg106 rfl (Yld.qui (yld_move rfl rfl)) ?_
                refine QL.gy (j := 2) (t := 131) rfl rfl rfl hg106 rfl (Yld.qui (yld_len_own (c := (cInt .i64)) rfl Tryd.underlying46 rfl hs101)) ?_
                refine QL.gy (j := 2) (t := 131) rfl rfl rfl hg106 rfl (Yld.qui (yld_neq rfl rfl rfl)) ?_
                refine QL.yld rfl rfl (Yld.qui (yld_or_f rfl rfl hg106 rfl)) ?_
                exact QL.nil fun a h => h.weaken ⟨rfl, rfl, rfl, rfl, rfl, rfl, rfl, rfl, trivial⟩
            refine QL.yld rfl rfl (Yld.qui (yld_move rfl rfl)) ?_
            obtain ⟨c107, hb108, hF⟩ := bsome hF
            refine QL.cut 10 [(3, v15), (4, .int .i64 r11.2.1), (5, .int .i64 r11.2.2), (14, v63), (16, v73), (146, .bool c107)] ?_ ?_
            · rcases Bool.eq_false_or_eq_true ((((r96.2 != 0)) || ((((r96.1.length : Int)) != 1)))) with hg109 | hg109
              ·
                rw [hg109] at hb108; simp only [cond_true, cond_false] at hb108
                refine QL.gnu (j := 7) (t := 136) rfl rfl rfl hg109 rfl ?_
                refine QL.gnu (j := 7) (t := 136) rfl rfl rfl hg109 rfl ?_
                refine QL.gnu (j := 7) (t := 136) rfl rfl rfl hg109 rfl ?_
                refine QL.gnu (j := 7) (t := 136) rfl rfl rfl hg109 rfl ?_
                refine QL.gnu (j := 7) (t := 136) rfl rfl rfl hg109 rfl ?_
                refine QL.gnu (j := 7) (t := 136) rfl rfl rfl hg109 rfl ?_
                refine QL.gnu (j := 7) (t := 136) rfl rfl rfl hg109 rfl ?_
                refine QL.gnu (j := 7) (t := 136) rfl rfl rfl hg109 rfl ?_
                refine QL.gnu (j := 7) (t := 136) rfl rfl rfl hg109 rfl ?_
                obtain rfl := Option.some.inj hb108
                refine QL.yld rfl rfl (Yld.qui (yld_pick_t rfl rfl hg109 rfl)) ?_
                exact QL.nil fun a h => h.weaken ⟨rfl, rfl, rfl, rfl, rfl, rfl, trivial⟩
              ·
                rw [hg109] at hb108; simp only [cond_true, cond_false] at hb108
                replace hF := hb108
                refine QL.gy (j := 7) (t := 136) rfl rfl rfl hg109 rfl (Yld.qui (yld_move rfl rfl)) ?_
                obtain ⟨x110, hy111, hF⟩ := bsome hF
                refine QL.yeg (j := 7) (t := 136) rfl rfl rfl hg109 rfl (ye_index_own (c := (cInt .i64)) rfl Tryd.underlying46 cn_2 rfl rfl hs101 hy111) ?_
                rintro _ ⟨g112, us114, rfl, hg113, hr115, hcl116⟩
                have hr115r := hr115
                obtain rfl := hr115
                refine QL.gy (j := 7) (t := 136) rfl rfl rfl hg109 rfl (Yld.qui (yld_load1 0 rfl ag_2 rfl hcl116 rfl rfl)) ?_
                refine QL.gy (j := 7) (t := 136) rfl rfl rfl hg109 rfl (Yld.qui (yld_move rfl rfl)) ?_
                obtain ⟨x117, hy118, hF⟩ := bsome hF
                refine QL.yeg (j := 7) (t := 136) rfl rfl rfl hg109 rfl (ye_index_own (c := (cInt .i64)) rfl Tryd.underlying46 cn_2 rfl rfl hs64 hy118) ?_
                rintro _ ⟨g119, us121, rfl, hg120, hr122, hcl123⟩
                have hr122r := hr122
                obtain rfl := hr122
                refine QL.gy (j := 7) (t := 136) rfl rfl rfl hg109 rfl (Yld.qui (yld_load1 0 rfl ag_2 rfl hcl123 rfl rfl)) ?_
                refine QL.gy (j := 7) (t := 136) rfl rfl rfl hg109 rfl (Yld.qui (yld_move rfl rfl)) ?_
                refine QL.gy (j := 7) (t := 136) rfl rfl rfl hg109 rfl (Yld.qui (yld_add rfl rfl rfl)) ?_
                refine QL.gy (j := 7) (t := 136) rfl rfl rfl hg109 rfl (Yld.qui (yld_neq rfl rfl rfl)) ?_
                obtain rfl := Option.some.inj hF
                refine QL.yld rfl rfl (Yld.qui (yld_pick_f rfl rfl hg109 rfl)) ?_
                exact QL.nil fun a h => h.weaken ⟨rfl, rfl, rfl, rfl, rfl, rfl, trivial⟩
            refine QL.done fun w124 hx125 => ?_
            have he126 : Ext w w124 := Ext.trans he104 hx125
            have hs16 := ownR.ext hs16 hx125
            have hs64 := ownR.ext hs64 hx125
            have hs74 := ownR.ext hs74 hx125
            have hs101 := ownR.ext hs101 hx125
            have hz127 := (hx125).size
            refine NX.seq ?_
            refine WC.cond rfl ?_ ?_
            · intro hc128
              replace hF := bif_t hc128 hF
              refine WC.seq ?_
              refine WC.region ?_
              refine TL.yld rfl rfl (yld_assign rfl rfl) ?_
              refine TL.done ?_
              refine NX.seq ?_
              refine WC.ret' ?_
              refine NX.then_r ?_
              obtain rfl := Option.some.inj hF
              exact NX.end (rs := [.tmp 2]) (vs := [.bool false]) rfl ⟨rfl, trivial⟩ ⟨_, rfl, rfl, he126⟩
            · intro hc129
              replace hF := bif_f hc129 hF
              refine WC.skip' ?_
              refine NX.seq ?_
              refine WC.seq ?_
              refine WC.region ?_
              refine TL.yld rfl rfl (yld_move rfl rfl) ?_
              refine TL.yld rfl rfl (yld_move rfl rfl) ?_
              refine TL.yld rfl rfl (yld_move rfl rfl) ?_
              obtain ⟨r130, hr131, hF⟩ := bsome hF
              refine TL.eff rfl rfl (eff_call rfl gf_33 rfl (W_impl_LevelAt hr131 (ownR.slf hs16 (Nat.zero_le _) (Nat.le_refl _)))) ?_
              rintro _ w132 ⟨rfl, hx133⟩
              have he134 : Ext w w132 := Ext.trans he126 hx133
              have hs16 := ownR.ext hs16 hx133
              have hs64 := ownR.ext hs64 hx133
              have hs74 := ownR.ext hs74 hx133
              have hs101 := ownR.ext hs101 hx133
              have hz135 := (hx133).size
              refine TL.yld rfl rfl (yld_move rfl rfl) ?_
              refine TL.yld rfl rfl (yld_extract rfl rfl rfl) ?_
              refine TL.yld rfl rfl (yld_extract rfl rfl rfl) ?_
              refine TL.yld rfl rfl (yld_assign rfl rfl) ?_
              refine TL.yld rfl rfl (yld_assign rfl rfl) ?_
              refine TL.done ?_
              refine NX.seq ?_
              refine WC.seq ?_
              refine WC.region ?_
              refine TL.yld rfl rfl (yld_move rfl rfl) ?_
              refine TL.yld rfl rfl (yld_move rfl rfl) ?_
              refine TL.yld rfl rfl (yld_move rfl rfl) ?_
              obtain ⟨x136, hy137, hF⟩ := bsome hF
              refine TL.ye rfl rfl (ye_index_own (c := (cInt .i64)) rfl Tryd.underlying46 cn_2 rfl rfl hs64 hy137) ?_
              rintro _ ⟨g138, us140, rfl, hg139, hr141, hcl142⟩
              have hr141r := hr141
              obtain rfl := hr141
              refine TL.yld rfl rfl (yld_load1 0 rfl ag_2 rfl hcl142 rfl rfl) ?_
              obtain ⟨r143, hr144, hF⟩ := bsome hF
              refine TL.eff rfl rfl (eff_call rfl gf_33 rfl (W_impl_LevelAt hr144 (ownR.slf hs16 (Nat.zero_le _) (Nat.le_refl _)))) ?_
              rintro _ w145 ⟨rfl, hx146⟩
              have he147 : Ext w w145 := Ext.trans he134 hx146
              have hs16 := ownR.ext hs16 hx146
              have hs64 := ownR.ext hs64 hx146
              have hs74 := ownR.ext hs74 hx146
              have hs101 := ownR.ext hs101 hx146
              have hz148 := (hx146).size
              refine TL.yld rfl rfl (yld_move rfl rfl) ?_
              refine TL.yld rfl rfl (yld_extract rfl rfl rfl) ?_
              refine TL.yld rfl rfl (yld_extract rfl rfl rfl) ?_
              refine TL.yld rfl rfl (yld_assign rfl rfl) ?_
              refine TL.yld rfl rfl (yld_assign rfl rfl) ?_
              refine TL.done ?_
              refine NX.seq ?_
              refine WC.seq ?_
              refine WC.region ?_
              refine TL.yld rfl rfl (yld_move rfl rfl) ?_
              refine TL.yld rfl rfl (yld_move rfl rfl) ?_
              refine TL.yld rfl rfl (yld_move rfl rfl) ?_
              obtain ⟨x149, hy150, hF⟩ := bsome hF
              refine TL.ye rfl rfl (ye_index_own (c := (cInt .i64)) rfl Tryd.underlying46 cn_2 rfl rfl hs74 hy150) ?_
              rintro _ ⟨g151, us153, rfl, hg152, hr154, hcl155⟩
              have hr154r := hr154
              obtain rfl := hr154
              refine TL.yld rfl rfl (yld_load1 0 rfl ag_2 rfl hcl155 rfl rfl) ?_
              obtain ⟨r156, hr157, hF⟩ := bsome hF
              refine TL.eff rfl rfl (eff_call rfl gf_33 rfl (W_impl_LevelAt hr157 (ownR.slf hs16 (Nat.zero_le _) (Nat.le_refl _)))) ?_
              rintro _ w158 ⟨rfl, hx159⟩
              have he160 : Ext w w158 := Ext.trans he147 hx159
              have hs16 := ownR.ext hs16 hx159
              have hs64 := ownR.ext hs64 hx159
              have hs74 := ownR.ext hs74 hx159
              have hs101 := ownR.ext hs101 hx159
              have hz161 := (hx159).size
              refine TL.yld rfl rfl (yld_move rfl rfl) ?_
              refine TL.yld rfl rfl (yld_extract rfl rfl rfl) ?_
              refine TL.yld rfl rfl (yld_extract rfl rfl rfl) ?_
              refine TL.yld rfl rfl (yld_assign rfl rfl) ?_
              refine TL.yld rfl rfl (yld_assign rfl rfl) ?_
              refine TL.done ?_
              refine NX.seq ?_
              refine WC.seq ?_
              refine WC.region ?_
              refine TL.yld rfl rfl (yld_assign rfl rfl) ?_
              refine TL.done ?_
              refine NX.seq ?_
              refine WC.seq ?_
              refine WC.seq ?_
              refine WC.quiet Tryd.hm (by kernel_rfl) ?_
              refine QL.yld rfl rfl (Yld.qui (yld_move rfl rfl)) ?_
              obtain ⟨x162, hy163, hF⟩ := bsome hF
              refine QL.ye rfl rfl (ye_index_own (c := (cInt .i64)) rfl Tryd.underlying46 cn_2 rfl rfl hs74 hy163) ?_
              rintro _ ⟨g164, us166, rfl, hg165, hr167, hcl168⟩
              have hr167r := hr167
              obtain rfl := hr167
              refine QL.yld rfl rfl (Yld.qui (yld_load1 0 rfl ag_2 rfl hcl168 rfl rfl)) ?_
              refine QL.yld rfl rfl (Yld.qui (yld_move rfl rfl)) ?_
              obtain ⟨x169, hy170, hF⟩ := bsome hF
              refine QL.ye rfl rfl (ye_index_own (c := (cInt .i64)) rfl Tryd.underlying46 cn_2 rfl rfl hs64 hy170) ?_
              rintro _ ⟨g171, us173, rfl, hg172, hr174, hcl175⟩
              have hr174r := hr174
              obtain rfl := hr174
              refine QL.yld rfl rfl (Yld.qui (yld_load1 0 rfl ag_2 rfl hcl175 rfl rfl)) ?_
              refine QL.yld rfl rfl (Yld.qui (yld_lss rfl rfl rfl)) ?_
              refine QL.done fun w176 hx177 => ?_
              have he178 : Ext w w176 := Ext.trans he160 hx177
              have hs16 := ownR.ext hs16 hx177
              have hs64 := ownR.ext hs64 hx177
              have hs74 := ownR.ext hs74 hx177
              have hs101 := ownR.ext hs101 hx177
              have hz179 := (hx177).size
              refine NX.seq ?_
              refine WC.cond rfl ?_ ?_
              · intro hc180
                replace hF := bif_t hc180 hF
                refine WC.region ?_
                refine TL.yld rfl rfl (yld_assign rfl rfl) ?_
                refine TL.done ?_
                refine NX.seq ?_
                refine WC.seq ?_
                refine WC.seq ?_
                refine WC.region ?_
                refine TL.yld rfl rfl (yld_move rfl rfl) ?_
                obtain ⟨x181, hy182, hF⟩ := bsome hF
                refine TL.ye rfl rfl (ye_index_own (c := (cInt .i64)) rfl Tryd.underlying46 cn_2 rfl rfl hs64 hy182) ?_
                rintro _ ⟨g183, us185, rfl, hg184, hr186, hcl187⟩
                have hr186r := hr186
                obtain rfl := hr186
                refine TL.yld rfl rfl (yld_load1 0 rfl ag_2 rfl hcl187 rfl rfl) ?_
                refine TL.yld rfl rfl (yld_move rfl rfl) ?_
                refine TL.yld rfl rfl (yld_eql rfl rfl rfl) ?_
                refine TL.done ?_
                refine NX.seq ?_
                refine WC.cond rfl ?_ ?_
                · intro hc188
                  replace hF := bif_t hc188 hF
                  refine WC.region ?_
                  refine TL.yld rfl rfl (yld_assign rfl rfl) ?_
                  refine TL.done ?_
                  refine NX.seq ?_
                  refine WC.seq ?_
                  refine WC.seq ?_
                  refine WC.region ?_
                  refine TL.yld rfl rfl (yld_move rfl rfl) ?_
                  obtain ⟨x189, hy190, hF⟩ := bsome hF
                  refine TL.ye rfl rfl (ye_index_own (c := (cInt .i64)) rfl Tryd.underlying46 cn_2 rfl rfl hs74 hy190) ?_
                  rintro _ ⟨g191, us193, rfl, hg192, hr194, hcl195⟩
                  have hr194r := hr194
                  obtain rfl := hr194
                  refine TL.yld rfl rfl (yld_load1 0 rfl ag_2 rfl hcl195 rfl rfl) ?_
                  refine TL.yld rfl rfl (yld_move rfl rfl) ?_
                  refine TL.yld rfl rfl (yld_eql rfl rfl rfl) ?_
                  refine TL.done ?_
                  refine NX.seq ?_
                  refine WC.cond rfl ?_ ?_
                  · intro hc196
                    replace hF := bif_t hc196 hF
                    refine WC.region ?_
                    refine TL.yld rfl rfl (yld_assign rfl rfl) ?_
                    refine TL.done ?_
                    refine NX.seq ?_
                    refine WC.seq ?_
                    refine WC.region ?_
                    refine TL.yld rfl rfl (yld_move rfl rfl) ?_
                    refine TL.yld rfl rfl (yld_move rfl rfl) ?_
                    refine TL.yld rfl rfl (yld_add rfl rfl rfl) ?_
                    refine TL.yld rfl rfl (yld_move rfl rfl) ?_
                    refine TL.yld rfl rfl (yld_add rfl rfl rfl) ?_
                    refine TL.yld rfl rfl (yld_eql rfl rfl rfl) ?_
                    refine TL.yld rfl rfl (yld_move rfl rfl) ?_
                    refine TL.cut 3 [(20, .int .i64 r130.1), (24, .int .i64 r156.1), (26, .int .i64 0), (198, .bool (((((IntKind.wrap IntKind.i64 ((IntKind.wrap IntKind.i64 (r130.2 + r143.2)) + r156.2)) == 0)) && ((r143.1 == 1)))))] (fun w' => Ext w176 w') ?_ ?_
                    · rcases Bool.eq_false_or_eq_true (((IntKind.wrap IntKind.i64 ((IntKind.wrap IntKind.i64 (r130.2 + r143.2)) + r156.2)) == 0)) with hg197 | hg197
                      ·
                        refine TL.gy (j := 6) (t := 195) rfl rfl rfl hg197 rfl (yld_move rfl rfl) ?_
                        refine TL.gy (j := 6) (t := 195) rfl rfl rfl hg197 rfl (yld_eql rfl rfl rfl) ?_
                        refine TL.yld rfl rfl (yld_and_t rfl rfl hg197 rfl) ?_
                        exact TL.nil fun a h => ⟨h.weaken ⟨rfl, rfl, rfl, rfl, trivial⟩, Ext.refl _⟩
                      ·
                        refine TL.gnu (j := 6) (t := 195) rfl rfl rfl hg197 rfl ?_
                        refine TL.gnu (j := 6) (t := 195) rfl rfl rfl hg197 rfl ?_
                        refine TL.yld rfl rfl (yld_and_f (b2 := (r143.1 == 1)) rfl rfl hg197 rfl) ?_
                        exact TL.nil fun a h => ⟨h.weaken ⟨rfl, rfl, rfl, rfl, trivial⟩, Ext.refl _⟩
                    intro w198 hx199
                    have he200 : Ext w w198 := Ext.trans he178 hx199
                    have hs16 := ownR.ext hs16 hx199
                    have hs64 := ownR.ext hs64 hx199
                    have hs74 := ownR.ext hs74 hx199
                    have hs101 := ownR.ext hs101 hx199
                    have hz201 := (hx199).size
                    refine TL.yld rfl rfl (yld_move rfl rfl) ?_
                    refine TL.cut 3 [(20, .int .i64 r130.1), (26, .int .i64 0), (202, .bool (((((((IntKind.wrap IntKind.i64 ((IntKind.wrap IntKind.i64 (r130.2 + r143.2)) + r156.2)) == 0)) && ((r143.1 == 1)))) && ((r156.1 == 0)))))] (fun w' => Ext w198 w') ?_ ?_
                    · rcases Bool.eq_false_or_eq_true (((((IntKind.wrap IntKind.i64 ((IntKind.wrap IntKind.i64 (r130.2 + r143.2)) + r156.2)) == 0)) && ((r143.1 == 1)))) with hg202 | hg202
                      ·
                        refine TL.gy (j := 10) (t := 199) rfl rfl rfl hg202 rfl (yld_move rfl rfl) ?_
                        refine TL.gy (j := 10) (t := 199) rfl rfl rfl hg202 rfl (yld_eql rfl rfl rfl) ?_
                        refine TL.yld rfl rfl (yld_and_t rfl rfl hg202 rfl) ?_
                        exact TL.nil fun a h => ⟨h.weaken ⟨rfl, rfl, rfl, trivial⟩, Ext.refl _⟩
                      ·
                        refine TL.gnu (j := 10) (t := 199) rfl rfl rfl hg202 rfl ?_
                        refine TL.gnu (j := 10) (t := 199) rfl rfl rfl hg202 rfl ?_
                        refine TL.yld rfl rfl (yld_and_f (b2 := (r156.1 == 0)) rfl rfl hg202 rfl) ?_
                        exact TL.nil fun a h => ⟨h.weaken ⟨rfl, rfl, rfl, trivial⟩, Ext.refl _⟩
                    intro w203 hx204
                    have he205 : Ext w w203 := Ext.trans he200 hx204
                    have hs16 := ownR.ext hs16 hx204
                    have hs64 := ownR.ext hs64 hx204
                    have hs74 := ownR.ext hs74 hx204
                    have hs101 := ownR.ext hs101 hx204
                    have hz206 := (hx204).size
                    refine TL.yld rfl rfl (yld_move rfl rfl) ?_
                    refine TL.cut 4 [(207, .bool (((((((((IntKind.wrap IntKind.i64 ((IntKind.wrap IntKind.i64 (r130.2 + r143.2)) + r156.2)) == 0)) && ((r143.1 == 1)))) && ((r156.1 == 0)))) && ((r130.1 == 0)))))] (fun w' => Ext w203 w') ?_ ?_
                    · rcases Bool.eq_false_or_eq_true (((((((IntKind.wrap IntKind.i64 ((IntKind.wrap IntKind.i64 (r130.2 + r143.2)) + r156.2)) == 0)) && ((r143.1 == 1)))) && ((r156.1 == 0)))) with hg207 | hg207
                      ·
                        refine TL.gy (j := 14) (t := 203) rfl rfl rfl hg207 rfl (yld_move rfl rfl) ?_
                        refine TL.gy (j := 14) (t := 203) rfl rfl rfl hg207 rfl (yld_move rfl rfl) ?_
                        refine TL.gy (j := 14) (t := 203) rfl rfl rfl hg207 rfl (yld_eql rfl rfl rfl) ?_
                        refine TL.yld rfl rfl (yld_and_t rfl rfl hg207 rfl) ?_
                        exact TL.nil fun a h => ⟨h.weaken ⟨rfl, trivial⟩, Ext.refl _⟩
                      ·
                        refine TL.gnu (j := 14) (t := 203) rfl rfl rfl hg207 rfl ?_
                        refine TL.gnu (j := 14) (t := 203) rfl rfl rfl hg207 rfl ?_
                        refine TL.gnu (j := 14) (t := 203) rfl rfl rfl hg207 rfl ?_
                        refine TL.yld rfl rfl (yld_and_f (b2 := (r130.1 == 0)) rfl rfl hg207 rfl) ?_
                        exact TL.nil fun a h => ⟨h.weaken ⟨rfl, trivial⟩, Ext.refl _⟩
                    intro w208 hx209
                    have he210 : Ext w w208 := Ext.trans he205 hx209
                    have hs16 := ownR.ext hs16 hx209
                    have hs64 := ownR.ext hs64 hx209
                    have hs74 := ownR.ext hs74 hx209
                    have hs101 := ownR.ext hs101 hx209
                    have hz211 := (hx209).size
                    refine TL.yld rfl rfl (yld_assign rfl rfl) ?_
                    refine TL.done ?_
                    refine NX.seq ?_
                    refine WC.ret' ?_
                    obtain rfl := Option.some.inj hF
                    exact NX.end (rs := [.tmp 2]) (vs := [.bool (((((((((IntKind.wrap IntKind.i64 ((IntKind.wrap IntKind.i64 (r130.2 + r143.2)) + r156.2)) == 0)) && ((r143.1 == 1)))) && ((r156.1 == 0)))) && ((r130.1 == 0))))]) rfl ⟨rfl, trivial⟩ ⟨_, rfl, rfl, he210⟩
                  · intro hc212
                    replace hF := bif_f hc212 hF
                    refine WC.skip' ?_
                    refine NX.seq ?_
                    refine WC.seq ?_
                    refine WC.region ?_
                    refine TL.yld rfl rfl (yld_move rfl rfl) ?_
                    refine TL.yld rfl rfl (yld_move rfl rfl) ?_
                    refine TL.yld rfl rfl (yld_add rfl rfl rfl) ?_
                    refine TL.yld rfl rfl (yld_move rfl rfl) ?_
                    refine TL.yld rfl rfl (yld_add rfl rfl rfl) ?_
                    refine TL.yld rfl rfl (yld_eql rfl rfl rfl) ?_
                    refine TL.yld rfl rfl (yld_move rfl rfl) ?_
                    refine TL.cut 3 [(20, .int .i64 r130.1), (24, .int .i64 r156.1), (26, .int .i64 1), (198, .bool (((((IntKind.wrap IntKind.i64 ((IntKind.wrap IntKind.i64 (r130.2 + r143.2)) + r156.2)) == 0)) && ((r143.1 == 1)))))] (fun w' => Ext w176 w') ?_ ?_
                    · rcases Bool.eq_false_or_eq_true (((IntKind.wrap IntKind.i64 ((IntKind.wrap IntKind.i64 (r130.2 + r143.2)) + r156.2)) == 0)) with hg213 | hg213
                      ·
                        refine TL.gy (j := 6) (t := 195) rfl rfl rfl hg213 rfl (yld_move rfl rfl) ?_
                        refine TL.gy (j := 6) (t := 195) rfl rfl rfl hg213 rfl (yld_eql rfl rfl rfl) ?_
                        refine TL.yld rfl rfl (yld_and_t rfl rfl hg213 rfl) ?_
                        exact TL.nil fun a h => ⟨h.weaken ⟨rfl, rfl, rfl, rfl, trivial⟩, Ext.refl _⟩
                      ·
                        refine TL.gnu (j := 6) (t := 195) rfl rfl rfl hg213 rfl ?_
                        refine TL.gnu (j := 6) (t := 195) rfl rfl rfl hg213 rfl ?_
                        refine TL.yld rfl rfl (yld_and_f (b2 := (r143.1 == 1)) rfl rfl hg213 rfl) ?_
                        exact TL.nil fun a h => ⟨h.weaken ⟨rfl, rfl, rfl, rfl, trivial⟩, Ext.refl _⟩
                    intro w214 hx215
                    have he216 : Ext w w214 := Ext.trans he178 hx215
                    have hs16 := ownR.ext hs16 hx215
                    have hs64 := ownR.ext hs64 hx215
                    have hs74 := ownR.ext hs74 hx215
                    have hs101 := ownR.ext hs101 hx215
                    have hz217 := (hx215).size
                    refine TL.yld rfl rfl (yld_move rfl rfl) ?_
                    refine TL.cut 3 [(20, .int .i64 r130.1), (26, .int .i64 1), (202, .bool (((((((IntKind.wrap IntKind.i64 ((IntKind.wrap IntKind.i64 (r130.2 + r143.2)) + r156.2)) == 0)) && ((r143.1 == 1)))) && ((r156.1 == 0)))))] (fun w' => Ext w214 w') ?_ ?_
                    · rcases Bool.eq_false_or_eq_true (((((IntKind.wrap IntKind.i64 ((IntKind.wrap IntKind.i64 (r130.2 + r143.2)) + r156.2)) == 0)) && ((r143.1 == 1)))) with hg218 | hg218
                      ·
                        refine TL.gy (j := 10) (t := 199) rfl rfl rfl hg218 rfl (yld_move rfl rfl) ?_
                        refine TL.gy (j := 10) (t := 199) rfl rfl rfl hg218 rfl (yld_eql rfl rfl rfl) ?_
                        refine TL.yld rfl rfl (yld_and_t rfl rfl hg218 rfl) ?_
                        exact TL.nil fun a h => ⟨h.weaken ⟨rfl, rfl, rfl, trivial⟩, Ext.refl _⟩
                      ·
                        refine TL.gnu (j := 10) (t := 199) rfl rfl rfl hg218 rfl ?_
                        refine TL.gnu (j := 10) (t := 199) rfl rfl rfl hg218 rfl ?_
                        refine TL.yld rfl rfl (yld_and_f (b2 := (r156.1 == 0)) rfl rfl hg218 rfl) ?_
                        exact TL.nil fun a h => ⟨h.weaken ⟨rfl, rfl, rfl, trivial⟩, Ext.refl _⟩
                    intro w219 hx220
                    have he221 : Ext w w219 := Ext.trans he216 hx220
                    have hs16 := ownR.ext hs16 hx220
                    have hs64 := ownR.ext hs64 hx220
                    have hs74 := ownR.ext hs74 hx220
                    have hs101 := ownR.ext hs101 hx220
                    have hz222 := (hx220).size
                    refine TL.yld rfl rfl (yld_move rfl rfl) ?_
                    refine TL.cut 4 [(207, .bool (((((((((IntKind.wrap IntKind.i64 ((IntKind.wrap IntKind.i64 (r130.2 + r143.2)) + r156.2)) == 0)) && ((r143.1 == 1)))) && ((r156.1 == 0)))) && ((r130.1 == 1)))))] (fun w' => Ext w219 w') ?_ ?_
                    · rcases Bool.eq_false_or_eq_true (((((((IntKind.wrap IntKind.i64 ((IntKind.wrap IntKind.i64 (r130.2 + r143.2)) + r156.2)) == 0)) && ((r143.1 == 1)))) && ((r156.1 == 0)))) with hg223 | hg223
                      ·
                        refine TL.gy (j := 14) (t := 203) rfl rfl rfl hg223 rfl (yld_move rfl rfl) ?_
                        refine TL.gy (j := 14) (t := 203) rfl rfl rfl hg223 rfl (yld_move rfl rfl) ?_
                        refine TL.gy (j := 14) (t := 203) rfl rfl rfl hg223 rfl (yld_eql rfl rfl rfl) ?_
                        refine TL.yld rfl rfl (yld_and_t rfl rfl hg223 rfl) ?_
                        exact TL.nil fun a h => ⟨h.weaken ⟨rfl, trivial⟩, Ext.refl _⟩
                      ·
                        refine TL.gnu (j := 14) (t := 203) rfl rfl rfl hg223 rfl ?_
                        refine TL.gnu (j := 14) (t := 203) rfl rfl rfl hg223 rfl ?_
                        refine TL.gnu (j := 14) (t := 203) rfl rfl rfl hg223 rfl ?_
                        refine TL.yld rfl rfl (yld_and_f (b2 := (r130.1 == 1)) rfl rfl hg223 rfl) ?_
                        exact TL.nil fun a h => ⟨h.weaken ⟨rfl, trivial⟩, Ext.refl _⟩
                    intro w224 hx225
                    have he226 : Ext w w224 := Ext.trans he221 hx225
                    have hs16 := ownR.ext hs16 hx225
                    have hs64 := ownR.ext hs64 hx225
                    have hs74 := ownR.ext hs74 hx225
                    have hs101 := ownR.ext hs101 hx225
                    have hz227 := (hx225).size
                    refine TL.yld rfl rfl (yld_assign rfl rfl) ?_
                    refine TL.done ?_
                    refine NX.seq ?_
                    refine WC.ret' ?_
                    obtain rfl := Option.some.inj hF
                    exact NX.end (rs := [.tmp 2]) (vs := [.bool (((((((((IntKind.wrap IntKind.i64 ((IntKind.wrap IntKind.i64 (r130.2 + r143.2)) + r156.2)) == 0)) && ((r143.1 == 1)))) && ((r156.1 == 0)))) && ((r130.1 == 1))))]) rfl ⟨rfl, trivial⟩ ⟨_, rfl, rfl, he226⟩
                · intro hc228
                  replace hF := bif_f hc228 hF
                  refine WC.skip' ?_
                  refine NX.seq ?_
                  refine WC.seq ?_
                  refine WC.seq ?_
                  refine WC.region ?_
                  refine TL.yld rfl rfl (yld_move rfl rfl) ?_
                  obtain ⟨x229, hy230, hF⟩ := bsome hF
                  refine TL.ye rfl rfl (ye_index_own (c := (cInt .i64)) rfl Tryd.underlying46 cn_2 rfl rfl hs74 hy230) ?_
                  rintro _ ⟨g231, us233, rfl, hg232, hr234, hcl235⟩
                  have hr234r := hr234
                  obtain rfl := hr234
                  refine TL.yld rfl rfl (yld_load1 0 rfl ag_2 rfl hcl235 rfl rfl) ?_
                  refine TL.yld rfl rfl (yld_move rfl rfl) ?_
                  refine TL.yld rfl rfl (yld_eql rfl rfl rfl) ?_
                  refine TL.done ?_
                  refine NX.seq ?_
                  refine WC.cond rfl ?_ ?_
                  · intro hc236
                    replace hF := bif_t hc236 hF
                    refine WC.region ?_
                    refine TL.yld rfl rfl (yld_assign rfl rfl) ?_
                    refine TL.done ?_
                    refine NX.seq ?_
                    refine WC.seq ?_
                    refine WC.region ?_
                    refine TL.yld rfl rfl (yld_move rfl rfl) ?_
                    refine TL.yld rfl rfl (yld_move rfl rfl) ?_
                    refine TL.yld rfl rfl (yld_add rfl rfl rfl) ?_
                    refine TL.yld rfl rfl (yld_move rfl rfl) ?_
                    refine TL.yld rfl rfl (yld_add rfl rfl rfl) ?_
                    refine TL.yld rfl rfl (yld_eql rfl rfl rfl) ?_
                    refine TL.yld rfl rfl (yld_move rfl rfl) ?_
                    refine TL.cut 3 [(20, .int .i64 r130.1), (24, .int .i64 r156.1), (26, .int .i64 0), (198, .bool (((((IntKind.wrap IntKind.i64 ((IntKind.wrap IntKind.i64 (r130.2 + r143.2)) + r156.2)) == 0)) && ((r143.1 == 1)))))] (fun w' => Ext w176 w') ?_ ?_
                    · rcases Bool.eq_false_or_eq_true (((IntKind.wrap IntKind.i64 ((IntKind.wrap IntKind.i64 (r130.2 + r143.2)) + r156.2)) == 0)) with hg237 | hg237
                      ·
                        refine TL.gy (j := 6) (t := 195) rfl rfl rfl hg237 rfl (yld_move rfl rfl) ?_
                        refine TL.gy (j := 6) (t := 195) rfl rfl rfl hg237 rfl (yld_eql rfl rfl rfl) ?_
                        refine TL.yld rfl rfl (yld_and_t rfl rfl hg237 rfl) ?_
                        exact TL.nil fun a h => ⟨h.weaken ⟨rfl, rfl, rfl, rfl, trivial⟩, Ext.refl _⟩
                      ·
                        refine TL.gnu (j := 6) (t := 195) rfl rfl rfl hg237 rfl ?_
                        refine TL.gnu (j := 6) (t := 195) rfl rfl rfl hg237 rfl ?_
                        refine TL.yld rfl rfl (yld_and_f (b2 := (r143.1 == 1)) rfl rfl hg237 rfl) ?_
                        exact TL.nil fun a h => ⟨h.weaken ⟨rfl, rfl, rfl, rfl, trivial⟩, Ext.refl _⟩
                    intro w238 hx239
                    have he240 : Ext w w238 := Ext.trans he178 hx239
                    have hs16 := ownR.ext hs16 hx239
                    have hs64 := ownR.ext hs64 hx239
                    have hs74 := ownR.ext hs74 hx239
                    have hs101 := ownR.ext hs101 hx239
                    have hz241 := (hx239).size
                    refine TL.yld rfl rfl (yld_move rfl rfl) ?_
                    refine TL.cut 3 [(20, .int .i64 r130.1), (26, .int .i64 0), (202, .bool (((((((IntKind.wrap IntKind.i64 ((IntKind.wrap IntKind.i64 (r130.2 + r143.2)) + r156.2)) == 0)) && ((r143.1 == 1)))) && ((r156.1 == 0)))))] (fun w' => Ext w238 w') ?_ ?_
                    · rcases Bool.eq_false_or_eq_true (((((IntKind.wrap IntKind.i64 ((IntKind.wrap IntKind.i64 (r130.2 + r143.2)) + r156.2)) == 0)) && ((r143.1 == 1)))) with hg242 | hg242
                      ·
                        refine TL.gy (j := 10) (t := 199) rfl rfl rfl hg242 rfl (yld_move rfl rfl) ?_
                        refine TL.gy (j := 10) (t := 199) rfl rfl rfl hg242 rfl (yld_eql rfl rfl rfl) ?_
                        refine TL.yld rfl rfl (yld_and_t rfl rfl hg242 rfl) ?_
                        exact TL.nil fun a h => ⟨h.weaken ⟨rfl, rfl, rfl, trivial⟩, Ext.refl _⟩
                      ·
                        refine TL.gnu (j := 10) (t := 199) rfl rfl rfl hg242 rfl ?_
                        refine TL.gnu (j := 10) (t := 199) rfl rfl rfl hg242 rfl ?_
                        refine TL.yld rfl rfl (yld_and_f (b2 := (r156.1 == 0)) rfl rfl hg242 rfl) ?_
                        exact TL.nil fun a h => ⟨h.weaken ⟨rfl, rfl, rfl, trivial⟩, Ext.refl _⟩
                    intro w243 hx244
                    have he245 : Ext w w243 := Ext.trans he240 hx244
                    have hs16 := ownR.ext hs16 hx244
                    have hs64 := ownR.ext hs64 hx244
                    have hs74 := ownR.ext hs74 hx244
                    have hs101 := ownR.ext hs101 hx244
                    have hz246 := (hx244).size
                    refine TL.yld rfl rfl (yld_move rfl rfl) ?_
                    refine TL.cut 4 [(207, .bool (((((((((IntKind.wrap IntKind.i64 ((IntKind.wrap IntKind.i64 (r130.2 + r143.2)) + r156.2)) == 0)) && ((r143.1 == 1)))) && ((r156.1 == 0)))) && ((r130.1 == 0)))))] (fun w' => Ext w243 w') ?_ ?_
                    · rcases Bool.eq_false_or_eq_true (((((((IntKind.wrap IntKind.i64 ((IntKind.wrap IntKind.i64 (r130.2 + r143.2)) + r156.2)) == 0)) && ((r143.1 == 1)))) && ((r156.1 == 0)))) with hg247 | hg247
                      ·
                        refine TL.gy (j := 14) (t := 203) rfl rfl rfl hg247 rfl (yld_move rfl rfl) ?_
                        refine TL.gy (j := 14) (t := 203) rfl rfl rfl hg247 rfl (yld_move rfl rfl) ?_
                        refine TL.gy (j := 14) (t := 203) rfl rfl rfl hg247 rfl (yld_eql rfl rfl rfl) ?_
                        refine TL.yld rfl rfl (yld_and_t rfl rfl hg247 rfl) ?_
                        exact TL.nil fun a h => ⟨h.weaken ⟨rfl, trivial⟩, Ext.refl _⟩
                      ·
                        refine TL.gnu (j := 14) (t := 203) rfl rfl rfl hg247 rfl ?_
                        refine TL.gnu (j := 14) (t := 203) rfl rfl rfl hg247 rfl ?_
                        refine TL.gnu (j := 14) (t := 203) rfl rfl rfl hg247 rfl ?_
                        refine TL.yld rfl rfl (yld_and_f (b2 := (r130.1 == 0)) rfl rfl hg247 rfl) ?_
                        exact TL.nil fun a h => ⟨h.weaken ⟨rfl, trivial⟩, Ext.refl _⟩
                    intro w248 hx249
                    have he250 : Ext w w248 := Ext.trans he245 hx249
                    have hs16 := ownR.ext hs16 hx249
                    have hs64 := ownR.ext hs64 hx249
                    have hs74 := ownR.ext hs74 hx249
                    have hs101 := ownR.ext hs101 hx249
                    have hz251 := (hx249).size
                    refine TL.yld rfl rfl (yld_assign rfl rfl) ?_
                    refine TL.done ?_
                    refine NX.seq ?_
                    refine WC.ret' ?_
                    obtain rfl := Option.some.inj hF
                    exact NX.end (rs := [.tmp 2]) (vs := [.bool (((((((((IntKind.wrap IntKind.i64 ((IntKind.wrap IntKind.i64 (r130.2 + r143.2)) + r156.2)) == 0)) && ((r143.1 == 1)))) && ((r156.1 == 0)))) && ((r130.1 == 0))))]) rfl ⟨rfl, trivial⟩ ⟨_, rfl, rfl, he250⟩
                  · intro hc252
                    replace hF := bif_f hc252 hF
                    refine WC.skip' ?_
                    refine NX.seq ?_
                    refine WC.seq ?_
                    refine WC.region ?_
                    refine TL.yld rfl rfl (yld_move rfl rfl) ?_
                    refine TL.yld rfl rfl (yld_move rfl rfl) ?_
                    refine TL.yld rfl rfl (yld_add rfl rfl rfl) ?_
                    refine TL.yld rfl rfl (yld_move rfl rfl) ?_
                    refine TL.yld rfl rfl (yld_add rfl rfl rfl) ?_
                    refine TL.yld rfl rfl (yld_eql rfl rfl rfl) ?_
                    refine TL.yld rfl rfl (yld_move rfl rfl) ?_
                    refine TL.cut 3 [(20, .int .i64 r130.1), (24, .int .i64 r156.1), (26, .int .i64 1), (198, .bool (((((IntKind.wrap IntKind.i64 ((IntKind.wrap IntKind.i64 (r130.2 + r143.2)) + r156.2)) == 0)) && ((r143.1 == 1)))))] (fun w' => Ext w176 w') ?_ ?_
                    · rcases Bool.eq_false_or_eq_true (((IntKind.wrap IntKind.i64 ((IntKind.wrap IntKind.i64 (r130.2 + r143.2)) + r156.2)) == 0)) with hg253 | hg253
                      ·
                        refine TL.gy (j := 6) (t := 195) rfl rfl rfl hg253 rfl (yld_move rfl rfl) ?_
                        refine TL.gy (j := 6) (t := 195) rfl rfl rfl hg253 rfl (yld_eql rfl rfl rfl) ?_
                        refine TL.yld rfl rfl (yld_and_t rfl rfl hg253 rfl) ?_
                        exact TL.nil fun a h => ⟨h.weaken ⟨rfl, rfl, rfl, rfl, trivial⟩, Ext.refl _⟩
                      ·
                        refine TL.gnu (j := 6) (t := 195) rfl rfl rfl hg253 rfl ?_
                        refine TL.gnu (j := 6) (t := 195) rfl rfl rfl hg253 rfl ?_
                        refine TL.yld rfl rfl (yld_and_f (b2 := (r143.1 == 1)) rfl rfl hg253 rfl) ?_
                        exact TL.nil fun a h => ⟨h.weaken ⟨rfl, rfl, rfl, rfl, trivial⟩, Ext.refl _⟩
                    intro w254 hx255
                    have he256 : Ext w w254 := Ext.trans he178 hx255
                    have hs16 := ownR.ext hs16 hx255
                    have hs64 := ownR.ext hs64 hx255
                    have hs74 := ownR.ext hs74 hx255
                    have hs101 := ownR.ext hs101 hx255
                    have hz257 := (hx255).size
                    refine TL.yld rfl rfl (yld_move rfl rfl) ?_
                    refine TL.cut 3 [(20, .int .i64 r130.1), (26, .int .i64 1), (202, .bool (((((((IntKind.wrap IntKind.i64 ((IntKind.wrap IntKind.i64 (r130.2 + r143.2)) + r156.2)) == 0)) && ((r143.1 == 1)))) && ((r156.1 == 0)))))] (fun w' => Ext w254 w') ?_ ?_
                    · rcases Bool.eq_false_or_eq_true (((((IntKind.wrap IntKind.i64 ((IntKind.wrap IntKind.i64 (r130.2 + r143.2)) + r156.2)) == 0)) && ((r143.1 == 1)))) with hg258 | hg258
                      ·
                        refine TL.gy (j := 10) (t := 199) rfl rfl rfl hg258 rfl (yld_move rfl rfl) ?_
                        refine TL.gy (j := 10) (t := 199) rfl rfl rfl hg258 rfl (yld_eql rfl rfl rfl) ?_
                        refine TL.yld rfl rfl (yld_and_t rfl rfl hg258 rfl) ?_
                        exact TL.nil fun a h => ⟨h.weaken ⟨rfl, rfl, rfl, trivial⟩, Ext.refl _⟩
                      ·
                        refine TL.gnu (j := 10) (t := 199) rfl rfl rfl hg258 rfl ?_
                        refine TL.gnu (j := 10) (t := 199) rfl rfl rfl hg258 rfl ?_
                        refine TL.yld rfl rfl (yld_and_f (b2 := (r156.1 == 0)) rfl rfl hg258 rfl) ?_
                        exact TL.nil fun a h => ⟨h.weaken ⟨rfl, rfl, rfl, trivial⟩, Ext.refl _⟩
                    intro w259 hx260
                    have he261 : Ext w w259 := Ext.trans he256 hx260
                    have hs16 := ownR.ext hs16 hx260
                    have hs64 := ownR.ext hs64 hx260
                    have hs74 := ownR.ext hs74 hx260
                    have hs101 := ownR.ext hs101 hx260
                    have hz262 := (hx260).size
                    refine TL.yld rfl rfl (yld_move rfl rfl) ?_
                    refine TL.cut 4 [(207, .bool (((((((((IntKind.wrap IntKind.i64 ((IntKind.wrap IntKind.i64 (r130.2 + r143.2)) + r156.2)) == 0)) && ((r143.1 == 1)))) && ((r156.1 == 0)))) && ((r130.1 == 1)))))] (fun w' => Ext w259 w') ?_ ?_
                    · rcases Bool.eq_false_or_eq_true (((((((IntKind.wrap IntKind.i64 ((IntKind.wrap IntKind.i64 (r130.2 + r143.2)) + r156.2)) == 0)) && ((r143.1 == 1)))) && ((r156.1 == 0)))) with hg263 | hg263
                      ·
                        refine TL.gy (j := 14) (t := 203) rfl rfl rfl hg263 rfl (yld_move rfl rfl) ?_
                        refine TL.gy (j := 14) (t := 203) rfl rfl rfl hg263 rfl (yld_move rfl rfl) ?_
                        refine TL.gy (j := 14) (t := 203) rfl rfl rfl hg263 rfl (yld_eql rfl rfl rfl) ?_
                        refine TL.yld rfl rfl (yld_and_t rfl rfl hg263 rfl) ?_
                        exact TL.nil fun a h => ⟨h.weaken ⟨rfl, trivial⟩, Ext.refl _⟩
                      ·
                        refine TL.gnu (j := 14) (t := 203) rfl rfl rfl hg263 rfl ?_
                        refine TL.gnu (j := 14) (t := 203) rfl rfl rfl hg263 rfl ?_
                        refine TL.gnu (j := 14) (t := 203) rfl rfl rfl hg263 rfl ?_
                        refine TL.yld rfl rfl (yld_and_f (b2 := (r130.1 == 1)) rfl rfl hg263 rfl) ?_
                        exact TL.nil fun a h => ⟨h.weaken ⟨rfl, trivial⟩, Ext.refl _⟩
                    intro w264 hx265
                    have he266 : Ext w w264 := Ext.trans he261 hx265
                    have hs16 := ownR.ext hs16 hx265
                    have hs64 := ownR.ext hs64 hx265
                    have hs74 := ownR.ext hs74 hx265
                    have hs101 := ownR.ext hs101 hx265
                    have hz267 := (hx265).size
                    refine TL.yld rfl rfl (yld_assign rfl rfl) ?_
                    refine TL.done ?_
                    refine NX.seq ?_
                    refine WC.ret' ?_
                    obtain rfl := Option.some.inj hF
                    exact NX.end (rs := [.tmp 2]) (vs := [.bool (((((((((IntKind.wrap IntKind.i64 ((IntKind.wrap IntKind.i64 (r130.2 + r143.2)) + r156.2)) == 0)) && ((r143.1 == 1)))) && ((r156.1 == 0)))) && ((r130.1 == 1))))]) rfl ⟨rfl, trivial⟩ ⟨_, rfl, rfl, he266⟩
              · intro hc268
                replace hF := bif_f hc268 hF
                refine WC.skip' ?_
                refine NX.seq ?_
                refine WC.seq ?_
                refine WC.seq ?_
                refine WC.region ?_
                refine TL.yld rfl rfl (yld_move rfl rfl) ?_
                obtain ⟨x269, hy270, hF⟩ := bsome hF
                refine TL.ye rfl rfl (ye_index_own (c := (cInt .i64)) rfl Tryd.underlying46 cn_2 rfl rfl hs64 hy270) ?_
                rintro _ ⟨g271, us273, rfl, hg272, hr274, hcl275⟩
                have hr274r := hr274
                obtain rfl := hr274
                refine TL.yld rfl rfl (yld_load1 0 rfl ag_2 rfl hcl275 rfl rfl) ?_
                refine TL.yld rfl rfl (yld_move rfl rfl) ?_
                refine TL.yld rfl rfl (yld_eql rfl rfl rfl) ?_
                refine TL.done ?_
                refine NX.seq ?_
                refine WC.cond rfl ?_ ?_
                · intro hc276
                  replace hF := bif_t hc276 hF
                  refine WC.region ?_
                  refine TL.yld rfl rfl (yld_assign rfl rfl) ?_
                  refine TL.done ?_
                  refine NX.seq ?_
                  refine WC.seq ?_
                  refine WC.seq ?_
                  refine WC.region ?_
                  refine TL.yld rfl rfl (yld_move rfl rfl) ?_
                  obtain ⟨x277, hy278, hF⟩ := bsome hF
                  refine TL.ye rfl rfl (ye_index_own (c := (cInt .i64)) rfl Tryd.underlying46 cn_2 rfl rfl hs74 hy278) ?_
                  rintro _ ⟨g279, us281, rfl, hg280, hr282, hcl283⟩
                  have hr282r := hr282
                  obtain rfl := hr282
                  refine TL.yld rfl rfl (yld_load1 0 rfl ag_2 rfl hcl283 rfl rfl) ?_
                  refine TL.yld rfl rfl (yld_move rfl rfl) ?_
                  refine TL.yld rfl rfl (yld_eql rfl rfl rfl) ?_
                  refine TL.done ?_
                  refine NX.seq ?_
                  refine WC.cond rfl ?_ ?_
                  · intro hc284
                    replace hF := bif_t hc284 hF
                    refine WC.region ?_
                    refine TL.yld rfl rfl (yld_assign rfl rfl) ?_
                    refine TL.done ?_
                    refine NX.seq ?_
                    refine WC.seq ?_
                    refine WC.region ?_
                    refine TL.yld rfl rfl (yld_move rfl rfl) ?_
                    refine TL.yld rfl rfl (yld_move rfl rfl) ?_
                    refine TL.yld rfl rfl (yld_add rfl rfl rfl) ?_
                    refine TL.yld rfl rfl (yld_move rfl rfl) ?_
                    refine TL.yld rfl rfl (yld_add rfl rfl rfl) ?_
                    refine TL.yld rfl rfl (yld_eql rfl rfl rfl) ?_
                    refine TL.yld rfl rfl (yld_move rfl rfl) ?_
                    refine TL.cut 3 [(20, .int .i64 r130.1), (24, .int .i64 r156.1), (26, .int .i64 0), (198, .bool (((((IntKind.wrap IntKind.i64 ((IntKind.wrap IntKind.i64 (r130.2 + r143.2)) + r156.2)) == 0)) && ((r143.1 == 1)))))] (fun w' => Ext w176 w') ?_ ?_
                    · rcases Bool.eq_false_or_eq_true (((IntKind.wrap IntKind.i64 ((IntKind.wrap IntKind.i64 (r130.2 + r143.2)) + r156.2)) == 0)) with hg285 | hg285
                      ·
                        refine TL.gy (j := 6) (t := 195) rfl rfl rfl hg285 rfl (yld_move rfl rfl) ?_
                        refine TL.gy (j := 6) (t := 195) rfl rfl rfl hg285 rfl (yld_eql rfl rfl rfl) ?_
                        refine TL.yld rfl rfl (yld_and_t rfl rfl hg285 rfl) ?_
                        exact TL.nil fun a h => ⟨h.weaken ⟨rfl, rfl, rfl, rfl, trivial⟩, Ext.refl _⟩
                      ·
                        refine TL.gnu (j := 6) (t := 195) rfl rfl rfl hg285 rfl ?_
                        refine TL.gnu (j := 6) (t := 195) rfl rfl rfl hg285 rfl ?_
                        refine TL.yld rfl rfl (yld_and_f (b2 := (r143.1 == 1)) rfl rfl hg285 rfl) ?_
                        exact TL.nil fun a h => ⟨h.weaken ⟨rfl, rfl, rfl, rfl, trivial⟩, Ext.refl _⟩
                    intro w286 hx287
                    have he288 : Ext w w286 := Ext.trans he178 hx287
                    have hs16 := ownR.ext hs16 hx287
                    have hs64 := ownR.ext hs64 hx287
                    have hs74 := ownR.ext hs74 hx287
                    have hs101 := ownR.ext hs101 hx287
                    have hz289 := (hx287).size
                    refine TL.yld rfl rfl (yld_move rfl rfl) ?_
                    refine TL.cut 3 [(20, .int .i64 r130.1), (26, .int .i64 0), (202, .bool (((((((IntKind.wrap IntKind.i64 ((IntKind.wrap IntKind.i64 (r130.2 + r143.2)) + r156.2)) == 0)) && ((r143.1 == 1)))) && ((r156.1 == 0)))))] (fun w' => Ext w286 w') ?_ ?_
                    · rcases Bool.eq_false_or_eq_true (((((IntKind.wrap IntKind.i64 ((IntKind.wrap IntKind.i64 (r130.2 + r143.2)) + r156.2)) == 0)) && ((r143.1 == 1)))) with hg290 | hg290
                      ·
                        refine TL.gy (j := 10) (t := 199) rfl rfl rfl hg290 rfl (yld_move rfl rfl) ?_
                        refine TL.gy (j := 10) (t := 199) rfl rfl rfl hg290 rfl (yld_eql rfl rfl rfl) ?_
                        refine TL.yld rfl rfl (yld_and_t rfl rfl hg290 rfl) ?_
                        exact TL.nil fun a h => ⟨h.weaken ⟨rfl, rfl, rfl, trivial⟩, Ext.refl _⟩
                      ·
                        refine TL.gnu (j := 10) (t := 199) rfl rfl rfl hg290 rfl ?_
                        refine TL.gnu (j := 10) (t := 199) rfl rfl rfl hg290 rfl ?_
                        refine TL.yld rfl rfl (yld_and_f (b2 := (r156.1 == 0)) rfl rfl hg290 rfl) ?_
                        exact TL.nil fun a h => ⟨h.weaken ⟨rfl, rfl, rfl, trivial⟩, Ext.refl _⟩
                    intro w291 hx292
                    have he293 : Ext w w291 := Ext.trans he288 hx292
                    have hs16 := ownR.ext hs16 hx292
                    have hs64 := ownR.ext hs64 hx292
                    have hs74 := ownR.ext hs74 hx292
                    have hs101 := ownR.ext hs101 hx292
                    have hz294 := (hx292).size
                    refine TL.yld rfl rfl (yld_move rfl rfl) ?_
                    refine TL.cut 4 [(207, .bool (((((((((IntKind.wrap IntKind.i64 ((IntKind.wrap IntKind.i64 (r130.2 + r143.2)) + r156.2)) == 0)) && ((r143.1 == 1)))) && ((r156.1 == 0)))) && ((r130.1 == 0)))))] (fun w' => Ext w291 w') ?_ ?_
                    · rcases Bool.eq_false_or_eq_true (((((((IntKind.wrap IntKind.i64 ((IntKind.wrap IntKind.i64 (r130.2 + r143.2)) + r156.2)) == 0)) && ((r143.1 == 1)))) && ((r156.1 == 0)))) with hg295 | hg295
                      ·
                        refine TL.gy (j := 14) (t := 203) rfl rfl rfl hg295 rfl (yld_move rfl rfl) ?_
                        refine TL.gy (j := 14) (t := 203) rfl rfl rfl hg295 rfl (yld_move rfl rfl) ?_
                        refine TL.gy (j := 14) (t := 203) rfl rfl rfl hg295 rfl (yld_eql rfl rfl rfl) ?_
                        refine TL.yld rfl rfl (yld_and_t rfl rfl hg295 rfl) ?_
                        exact TL.nil fun a h => ⟨h.weaken ⟨rfl, trivial⟩, Ext.refl _⟩
                      ·
                        refine TL.gnu (j := 14) (t := 203) rfl rfl rfl hg295 rfl ?_
                        refine TL.gnu (j := 14) (t := 203) rfl rfl rfl hg295 rfl ?_
                        refine TL.gnu (j := 14) (t := 203) rfl rfl rfl hg295 rfl ?_
                        refine TL.yld rfl rfl (yld_and_f (b2 := (r130.1 == 0)) rfl rfl hg295 rfl) ?_
                        exact TL.nil fun a h => ⟨h.weaken ⟨rfl, trivial⟩, Ext.refl _⟩
                    intro w296 hx297
                    have he298 : Ext w w296 := Ext.trans he293 hx297
                    have hs16 := ownR.ext hs16 hx297
                    have hs64 := ownR.ext hs64 hx297
                    have hs74 := ownR.ext hs74 hx297
                    have hs101 := ownR.ext hs101 hx297
                    have hz299 := (hx297).size
                    refine TL.yld rfl rfl (yld_assign rfl rfl) ?_
                    refine TL.done ?_
                    refine NX.seq ?_
                    refine WC.ret' ?_
                    obtain rfl := Option.some.inj hF
                    exact NX.end (rs := [.tmp 2]) (vs := [.bool (((((((((IntKind.wrap IntKind.i64 ((IntKind.wrap IntKind.i64 (r130.2 + r143.2)) + r156.2)) == 0)) && ((r143.1 == 1)))) && ((r156.1 == 0)))) && ((r130.1 == 0))))]) rfl ⟨rfl, trivial⟩ ⟨_, rfl, rfl, he298⟩
                  · intro hc300
                    replace hF := bif_f hc300 hF
                    refine WC.skip' ?_
                    refine NX.seq ?_
                    refine WC.seq ?_
                    refine WC.region ?_
                    refine TL.yld rfl rfl (yld_move rfl rfl) ?_
                    refine TL.yld rfl rfl (yld_move rfl rfl) ?_
                    refine TL.yld rfl rfl (yld_add rfl rfl rfl) ?_
                    refine TL.yld rfl rfl (yld_move rfl rfl) ?_
                    refine TL.yld rfl rfl (yld_add rfl rfl rfl) ?_
                    refine TL.yld rfl rfl (yld_eql rfl rfl rfl) ?_
                    refine TL.yld rfl rfl (yld_move rfl rfl) ?_
                    refine TL.cut 3 [(20, .int .i64 r130.1), (24, .int .i64 r156.1), (26, .int .i64 1), (198, .bool (((((IntKind.wrap IntKind.i64 ((IntKind.wrap IntKind.i64 (r130.2 + r143.2)) + r156.2)) == 0)) && ((r143.1 == 1)))))] (fun w' => Ext w176 w') ?_ ?_
                    · rcases Bool.eq_false_or_eq_true (((IntKind.wrap IntKind.i64 ((IntKind.wrap IntKind.i64 (r130.2 + r143.2)) + r156.2)) == 0)) with hg301 | hg301
                      ·
                        refine TL.gy (j := 6) (t := 195) rfl rfl rfl hg301 rfl (yld_move rfl rfl) ?_
                        refine TL.gy (j := 6) (t := 195) rfl rfl rfl hg301 rfl (yld_eql rfl rfl rfl) ?_
                        refine TL.yld rfl rfl (yld_and_t rfl rfl hg301 rfl) ?_
                        exact TL.nil fun a h => ⟨h.weaken ⟨rfl, rfl, rfl, rfl, trivial⟩, Ext.refl _⟩
                      ·
                        refine TL.gnu (j := 6) (t := 195) rfl rfl rfl hg301 rfl ?_
                        refine TL.gnu (j := 6) (t := 195) rfl rfl rfl hg301 rfl ?_
                        refine TL.yld rfl rfl (yld_and_f (b2 := (r143.1 == 1)) rfl rfl hg301 rfl) ?_
                        exact TL.nil fun a h => ⟨h.weaken ⟨rfl, rfl, rfl, rfl, trivial⟩, Ext.refl _⟩
                    intro w302 hx303
                    have he304 : Ext w w302 := Ext.trans he178 hx303
                    have hs16 := ownR.ext hs16 hx303
                    have hs64 := ownR.ext hs64 hx303
                    have hs74 := ownR.ext hs74 hx303
                    have hs101 := ownR.ext hs101 hx303
                    have hz305 := (hx303).size
                    refine TL.yld rfl rfl (yld_move rfl rfl) ?_
                    refine TL.cut 3 [(20, .int .i64 r130.1), (26, .int .i64 1), (202, .bool (((((((IntKind.wrap IntKind.i64 ((IntKind.wrap IntKind.i64 (r130.2 + r143.2)) + r156.2)) == 0)) && ((r143.1 == 1)))) && ((r156.1 == 0)))))] (fun w' => Ext w302 w') ?_ ?_
                    · rcases Bool.eq_false_or_eq_true (((((IntKind.wrap IntKind.i64 ((IntKind.wrap IntKind.i64 (r130.2 + r143.2)) + r156.2)) == 0)) && ((r143.1 == 1)))) with hg306 | hg306
                      ·
                        refine TL.gy (j := 10) (t := 199) rfl rfl rfl hg306 rfl (yld_move rfl rfl) ?_
                        refine TL.gy (j := 10) (t := 199) rfl rfl rfl hg306 rfl (yld_eql rfl rfl rfl) ?_
                        refine TL.yld rfl rfl (yld_and_t rfl rfl hg306 rfl) ?_
                        exact TL.nil fun a h => ⟨h.weaken ⟨rfl, rfl, rfl, trivial⟩, Ext.refl _⟩
                      ·
                        refine TL.gnu (j := 10) (t := 199) rfl rfl rfl hg306 rfl ?_
                        refine TL.gnu (j := 10) (t := 199) rfl rfl rfl hg306 rfl ?_
                        refine TL.yld rfl rfl (yld_and_f (b2 := (r156.1 == 0)) rfl rfl hg306 rfl) ?_
                        exact TL.nil fun a h => ⟨h.weaken ⟨rfl, rfl, rfl, trivial⟩, Ext.refl _⟩
                    intro w307 hx308
                    have he309 : Ext w w307 := Ext.trans he304 hx308
                    have hs16 := ownR.ext hs16 hx308
                    have hs64 := ownR.ext hs64 hx308
                    have hs74 := ownR.ext hs74 hx308
                    have hs101 := ownR.ext hs101 hx308
                    have hz310 := (hx308).size
                    refine TL.yld rfl rfl (yld_move rfl rfl) ?_
                    refine TL.cut 4 [(207, .bool (((((((((IntKind.wrap IntKind.i64 ((IntKind.wrap IntKind.i64 (r130.2 + r143.2)) + r156.2)) == 0)) && ((r143.1 == 1)))) && ((r156.1 == 0)))) && ((r130.1 == 1)))))] (fun w' => Ext w307 w') ?_ ?_
                    · rcases Bool.eq_false_or_eq_true (((((((IntKind.wrap IntKind.i64 ((IntKind.wrap IntKind.i64 (r130.2 + r143.2)) + r156.2)) == 0)) && ((r143.1 == 1)))) && ((r156.1 == 0)))) with hg311 | hg311
                      ·
                        refine TL.gy (j := 14) (t := 203) rfl rfl rfl hg311 rfl (yld_move rfl rfl) ?_
                        refine TL.gy (j := 14) (t := 203) rfl rfl rfl hg311 rfl (yld_move rfl rfl) ?_
                        refine TL.gy (j := 14) (t := 203) rfl rfl rfl hg311 rfl (yld_eql rfl rfl rfl) ?_
                        refine TL.yld rfl rfl (yld_and_t rfl rfl hg311 rfl) ?_
                        exact TL.nil fun a h => ⟨h.weaken ⟨rfl, trivial⟩, Ext.refl _⟩
                      ·
                        refine TL.gnu (j := 14) (t := 203) rfl rfl rfl hg311 rfl ?_
                        refine TL.gnu (j := 14) (t := 203) rfl rfl rfl hg311 rfl ?_
                        refine TL.gnu (j := 14) (t := 203) rfl rfl rfl hg311 rfl ?_
                        refine TL.yld rfl rfl (yld_and_f (b2 := (r130.1 == 1)) rfl rfl hg311 rfl) ?_
                        exact TL.nil fun a h => ⟨h.weaken ⟨rfl, trivial⟩, Ext.refl _⟩
                    intro w312 hx313
                    have he314 : Ext w w312 := Ext.trans he309 hx313
                    have hs16 := ownR.ext hs16 hx313
                    have hs64 := ownR.ext hs64 hx313
                    have hs74 := ownR.ext hs74 hx313
                    have hs101 := ownR.ext hs101 hx313
                    have hz315 := (hx313).size
                    refine TL.yld rfl rfl (yld_assign rfl rfl) ?_
                    refine TL.done ?_
                    refine NX.seq ?_
                    refine WC.ret' ?_
                    obtain rfl := Option.some.inj hF
                    exact NX.end (rs := [.tmp 2]) (vs := [.bool (((((((((IntKind.wrap IntKind.i64 ((IntKind.wrap IntKind.i64 (r130.2 + r143.2)) + r156.2)) == 0)) && ((r143.1 == 1)))) && ((r156.1 == 0)))) && ((r130.1 == 1))))]) rfl ⟨rfl, trivial⟩ ⟨_, rfl, rfl, he314⟩
                · intro hc316
                  replace hF := bif_f hc316 hF
                  refine WC.skip' ?_
                  refine NX.seq ?_
                  refine WC.seq ?_
                  refine WC.seq ?_
                  refine WC.region ?_
                  refine TL.yld rfl rfl (yld_move rfl rfl) ?_
                  obtain ⟨x317, hy318, hF⟩ := bsome hF
                  refine TL.ye rfl rfl (ye_index_own (c := (cInt .i64)) rfl Tryd.underlying46 cn_2 rfl rfl hs74 hy318) ?_
                  rintro _ ⟨g319, us321, rfl, hg320, hr322, hcl323⟩
                  have hr322r := hr322
                  obtain rfl := hr322
                  refine TL.yld rfl rfl (yld_load1 0 rfl ag_2 rfl hcl323 rfl rfl) ?_
                  refine TL.yld rfl rfl (yld_move rfl rfl) ?_
                  refine TL.yld rfl rfl (yld_eql rfl rfl rfl) ?_
                  refine TL.done ?_
                  refine NX.seq ?_
                  refine WC.cond rfl ?_ ?_
                  · intro hc324
                    replace hF := bif_t hc324 hF
                    refine WC.region ?_
                    refine TL.yld rfl rfl (yld_assign rfl rfl) ?_
                    refine TL.done ?_
                    refine NX.seq ?_
                    refine WC.seq ?_
                    refine WC.region ?_
                    refine TL.yld rfl rfl (yld_move rfl rfl) ?_
                    refine TL.yld rfl rfl (yld_move rfl rfl) ?_
                    refine TL.yld rfl rfl (yld_add rfl rfl rfl) ?_
                    refine TL.yld rfl rfl (yld_move rfl rfl) ?_
                    refine TL.yld rfl rfl (yld_add rfl rfl rfl) ?_
                    refine TL.yld rfl rfl (yld_eql rfl rfl rfl) ?_
                    refine TL.yld rfl rfl (yld_move rfl rfl) ?_
                    refine TL.cut 3 [(20, .int .i64 r130.1), (24, .int .i64 r156.1), (26, .int .i64 0), (198, .bool (((((IntKind.wrap IntKind.i64 ((IntKind.wrap IntKind.i64 (r130.2 + r143.2)) + r156.2)) == 0)) && ((r143.1 == 1)))))] (fun w' => Ext w176 w') ?_ ?_
                    · rcases Bool.eq_false_or_eq_true (((IntKind.wrap IntKind.i64 ((IntKind.wrap IntKind.i64 (r130.2 + r143.2)) + r156.2)) == 0)) with hg325 | hg325
                      ·
                        refine TL.gy (j := 6) (t := 195) rfl rfl rfl hg325 rfl (yld_move rfl rfl) ?_
                        refine TL.gy (j := 6) (t := 195) rfl rfl rfl hg325 rfl (yld_eql rfl rfl rfl) ?_
                        refine TL.yld rfl rfl (yld_and_t rfl rfl hg325 rfl) ?_
                        exact TL.nil fun a h => ⟨h.weaken ⟨rfl, rfl, rfl, rfl, trivial⟩, Ext.refl _⟩
                      ·
                        refine TL.gnu (j := 6) (t := 195) rfl rfl rfl hg325 rfl ?_
                        refine TL.gnu (j := 6) (t := 195) rfl rfl rfl hg325 rfl ?_
                        refine TL.yld rfl rfl (yld_and_f (b2 := (r143.1 == 1)) rfl rfl hg325 rfl) ?_
                        exact TL.nil fun a h => ⟨h.weaken ⟨rfl, rfl, rfl, rfl, trivial⟩, Ext.refl _⟩
                    intro w326 hx327
                    have he328 : Ext w w326 := Ext.trans he178 hx327
                    have hs16 := ownR.ext hs16 hx327
                    have hs64 := ownR.ext hs64 hx327
                    have hs74 := ownR.ext hs74 hx327
                    have hs101 := ownR.ext hs101 hx327
                    have hz329 := (hx327).size
                    refine TL.yld rfl rfl (yld_move rfl rfl) ?_
                    refine TL.cut 3 [(20, .int .i64 r130.1), (26, .int .i64 0), (202, .bool (((((((IntKind.wrap IntKind.i64 ((IntKind.wrap IntKind.i64 (r130.2 + r143.2)) + r156.2)) == 0)) && ((r143.1 == 1)))) && ((r156.1 == 0)))))] (fun w' => Ext w326 w') ?_ ?_
                    · rcases Bool.eq_false_or_eq_true (((((IntKind.wrap IntKind.i64 ((IntKind.wrap IntKind.i64 (r130.2 + r143.2)) + r156.2)) == 0)) && ((r143.1 == 1)))) with hg330 | hg330
                      ·
                        refine TL.gy (j := 10) (t := 199) rfl rfl rfl hg330 rfl (yld_move rfl rfl) ?_
                        refine TL.gy (j := 10) (t := 199) rfl rfl rfl hg330 rfl (yld_eql rfl rfl rfl) ?_
                        refine TL.yld rfl rfl (yld_and_t rfl rfl hg330 rfl) ?_
                        exact TL.nil fun a h => ⟨h.weaken ⟨rfl, rfl, rfl, trivial⟩, Ext.refl _⟩
                      ·
                        refine TL.gnu (j := 10) (t := 199) rfl rfl rfl hg330 rfl ?_
                        refine TL.gnu (j := 10) (t := 199) rfl rfl rfl hg330 rfl ?_
                        refine TL.yld rfl rfl (yld_and_f (b2 := (r156.1 == 0)) rfl rfl hg330 rfl) ?_
                        exact TL.nil fun a h => ⟨h.weaken ⟨rfl, rfl, rfl, trivial⟩, Ext.refl _⟩
                    intro w331 hx332
                    have he333 : Ext w w331 := Ext.trans he328 hx332
                    have hs16 := ownR.ext hs16 hx332
                    have hs64 := ownR.ext hs64 hx332
                    have hs74 := ownR.ext hs74 hx332
                    have hs101 := ownR.ext hs101 hx332
                    have hz334 := (hx332).size
                    refine TL.yld rfl rfl (yld_move rfl rfl) ?_
                    refine TL.cut 4 [(207, .bool (((((((((IntKind.wrap IntKind.i64 ((IntKind.wrap IntKind.i64 (r130.2 + r143.2)) + r156.2)) == 0)) && ((r143.1 == 1)))) && ((r156.1 == 0)))) && ((r130.1 == 0)))))] (fun w' => Ext w331 w') ?_ ?_
                    · rcases Bool.eq_false_or_eq_true (((((((IntKind.wrap IntKind.i64 ((IntKind.wrap IntKind.i64 (r130.2 + r143.2)) + r156.2)) == 0)) && ((r143.1 == 1)))) && ((r156.1 == 0)))) with hg335 | hg335
                      ·
                        refine TL.gy (j := 14) (t := 203) rfl rfl rfl hg335 rfl (yld_move rfl rfl) ?_
                        refine TL.gy (j := 14) (t := 203) rfl rfl rfl hg335 rfl (yld_move rfl rfl) ?_
                        refine TL.gy (j := 14) (t := 203) rfl rfl rfl hg335 rfl (yld_eql rfl rfl rfl) ?_
                        refine TL.yld rfl rfl (yld_and_t rfl rfl hg335 rfl) ?_
                        exact TL.nil fun a h => ⟨h.weaken ⟨rfl, trivial⟩, Ext.refl _⟩
                      ·
                        refine TL.gnu (j := 14) (t := 203) rfl rfl rfl hg335 rfl ?_
                        refine TL.gnu (j := 14) (t := 203) rfl rfl rfl hg335 rfl ?_
                        refine TL.gnu (j := 14) (t := 203) rfl rfl rfl hg335 rfl ?_
                        refine TL.yld rfl rfl (yld_and_f (b2 := (r130.1 == 0)) rfl rfl hg335 rfl) ?_
                        exact TL.nil fun a h => ⟨h.weaken ⟨rfl, trivial⟩, Ext.refl _⟩
                    intro w336 hx337
                    have he338 : Ext w w336 := Ext.trans he333 hx337
                    have hs16 := ownR.ext hs16 hx337
                    have hs64 := ownR.ext hs64 hx337
                    have hs74 := ownR.ext hs74 hx337
                    have hs101 := ownR.ext hs101 hx337
                    have hz339 := (hx337).size
                    refine TL.yld rfl rfl (yld_assign rfl rfl) ?_
                    refine TL.done ?_
                    refine NX.seq ?_
                    refine WC.ret' ?_
                    obtain rfl := Option.some.inj hF
                    exact NX.end (rs := [.tmp 2]) (vs := [.bool (((((((((IntKind.wrap IntKind.i64 ((IntKind.wrap IntKind.i64 (r130.2 + r143.2)) + r156.2)) == 0)) && ((r143.1 == 1)))) && ((r156.1 == 0)))) && ((r130.1 == 0))))]) rfl ⟨rfl, trivial⟩ ⟨_, rfl, rfl, he338⟩
                  · intro hc340
                    replace hF := bif_f hc340 hF
                    refine WC.skip' ?_
                    refine NX.seq ?_
                    refine WC.seq ?_
                    refine WC.region ?_
                    refine TL.yld rfl rfl (yld_move rfl rfl) ?_
                    refine TL.yld rfl rfl (yld_move rfl rfl) ?_
                    refine TL.yld rfl rfl (yld_add rfl rfl rfl) ?_
                    refine TL.yld rfl rfl (yld_move rfl rfl) ?_
                    refine TL.yld rfl rfl (yld_add rfl rfl rfl) ?_
                    refine TL.yld rfl rfl (yld_eql rfl rfl rfl) ?_
                    refine TL.yld rfl rfl (yld_move rfl rfl) ?_
                    refine TL.cut 3 [(20, .int .i64 r130.1), (24, .int .i64 r156.1), (26, .int .i64 0), (198, .bool (((((IntKind.wrap IntKind.i64 ((IntKind.wrap IntKind.i64 (r130.2 + r143.2)) + r156.2)) == 0)) && ((r143.1 == 1)))))] (fun w' => Ext w176 w') ?_ ?_
                    · rcases Bool.eq_false_or_eq_true (((IntKind.wrap IntKind.i64 ((IntKind.wrap IntKind.i64 (r130.2 + r143.2)) + r156.2)) == 0)) with hg341 | hg341
                      ·
                        refine TL.gy (j := 6) (t := 195) rfl rfl rfl hg341 rfl (yld_move rfl rfl) ?_
                        refine TL.gy (j := 6) (t := 195) rfl rfl rfl hg341 rfl (yld_eql rfl rfl rfl) ?_
                        refine TL.yld rfl rfl (yld_and_t rfl rfl hg341 rfl) ?_
                        exact TL.nil fun a h => ⟨h.weaken ⟨rfl, rfl, rfl, rfl, trivial⟩, Ext.refl _⟩
                      ·
                        refine TL.gnu (j := 6) (t := 195) rfl rfl rfl hg341 rfl ?_
                        refine TL.gnu (j := 6) (t := 195) rfl rfl rfl hg341 rfl ?_
                        refine TL.yld rfl rfl (yld_and_f (b2 := (r143.1 == 1)) rfl rfl hg341 rfl) ?_
                        exact TL.nil fun a h => ⟨h.weaken ⟨rfl, rfl, rfl, rfl, trivial⟩, Ext.refl _⟩
                    intro w342 hx343
                    have he344 : Ext w w342 := Ext.trans he178 hx343
                    have hs16 := ownR.ext hs16 hx343
                    have hs64 := ownR.ext hs64 hx343
                    have hs74 := ownR.ext hs74 hx343
                    have hs101 := ownR.ext hs101 hx343
                    have hz345 := (hx343).size
                    refine TL.yld rfl rfl (yld_move rfl rfl) ?_
                    refine TL.cut 3 [(20, .int .i64 r130.1), (26, .int .i64 0), (202, .bool (((((((IntKind.wrap IntKind.i64 ((IntKind.wrap IntKind.i64 (r130.2 + r143.2)) + r156.2)) == 0)) && ((r143.1 == 1)))) && ((r156.1 == 0)))))] (fun w' => Ext w342 w') ?_ ?_
                    · rcases Bool.eq_false_or_eq_true (((((IntKind.wrap IntKind.i64 ((IntKind.wrap IntKind.i64 (r130.2 + r143.2)) + r156.2)) == 0)) && ((r143.1 == 1)))) with hg346 | hg346
                      ·
                        refine TL.gy (j := 10) (t := 199) rfl rfl rfl hg346 rfl (yld_move rfl rfl) ?_
                        refine TL.gy (j := 10) (t := 199) rfl rfl rfl hg346 rfl (yld_eql rfl rfl rfl) ?_
                        refine TL.yld rfl rfl (yld_and_t rfl rfl hg346 rfl) ?_
                        exact TL.nil fun a h => ⟨h.weaken ⟨rfl, rfl, rfl, trivial⟩, Ext.refl _⟩
                      ·
                        refine TL.gnu (j := 10) (t := 199) rfl rfl rfl hg346 rfl ?_
                        refine TL.gnu (j := 10) (t := 199) rfl rfl rfl hg346 rfl ?_
                        refine TL.yld rfl rfl (yld_and_f (b2 := (r156.1 == 0)) rfl rfl hg346 rfl) ?_
                        exact TL.nil fun a h => ⟨h.weaken ⟨rfl, rfl, rfl, trivial⟩, Ext.refl _⟩
                    intro w347 hx348
                    have he349 : Ext w w347 := Ext.trans he344 hx348
                    have hs16 := ownR.ext hs16 hx348
                    have hs64 := ownR.ext hs64 hx348
                    have hs74 := ownR.ext hs74 hx348
                    have hs101 := ownR.ext hs101 hx348
                    have hz350 := (hx348).size
                    refine TL.yld rfl rfl (yld_move rfl rfl) ?_
                    refine TL.cut 4 [(207, .bool (((((((((IntKind.wrap IntKind.i64 ((IntKind.wrap IntKind.i64 (r130.2 + r143.2)) + r156.2)) == 0)) && ((r143.1 == 1)))) && ((r156.1 == 0)))) && ((r130.1 == 0)))))] (fun w' => Ext w347 w') ?_ ?_
                    · rcases Bool.eq_false_or_eq_true (((((((IntKind.wrap IntKind.i64 ((IntKind.wrap IntKind.i64 (r130.2 + r143.2)) + r156.2)) == 0)) && ((r143.1 == 1)))) && ((r156.1 == 0)))) with hg351 | hg351
                      ·
                        refine TL.gy (j := 14) (t := 203) rfl rfl rfl hg351 rfl (yld_move rfl rfl) ?_
                        refine TL.gy (j := 14) (t := 203) rfl rfl rfl hg351 rfl (yld_move rfl rfl) ?_
                        refine TL.gy (j := 14) (t := 203) rfl rfl rfl hg351 rfl (yld_eql rfl rfl rfl) ?_
                        refine TL.yld rfl rfl (yld_and_t rfl rfl hg351 rfl) ?_
                        exact TL.nil fun a h => ⟨h.weaken ⟨rfl, trivial⟩, Ext.refl _⟩
                      ·
                        refine TL.gnu (j := 14) (t := 203) rfl rfl rfl hg351 rfl ?_
                        refine TL.gnu (j := 14) (t := 203) rfl rfl rfl hg351 rfl ?_
                        refine TL.gnu (j := 14) (t := 203) rfl rfl rfl hg351 rfl ?_
                        refine TL.yld rfl rfl (yld_and_f (b2 := (r130.1 == 0)) rfl rfl hg351 rfl) ?_
                        exact TL.nil fun a h => ⟨h.weaken ⟨rfl, trivial⟩, Ext.refl _⟩
                    intro w352 hx353
                    have he354 : Ext w w352 := Ext.trans he349 hx353
                    have hs16 := ownR.ext hs16 hx353
                    have hs64 := ownR.ext hs64 hx353
                    have hs74 := ownR.ext hs74 hx353
                    have hs101 := ownR.ext hs101 hx353
                    have hz355 := (hx353).size
                    refine TL.yld rfl rfl (yld_assign rfl rfl) ?_
                    refine TL.done ?_
                    refine NX.seq ?_
                    refine WC.ret' ?_
                    obtain rfl := Option.some.inj hF
                    exact NX.end (rs := [.tmp 2]) (vs := [.bool (((((((((IntKind.wrap IntKind.i64 ((IntKind.wrap IntKind.i64 (r130.2 + r143.2)) + r156.2)) == 0)) && ((r143.1 == 1)))) && ((r156.1 == 0)))) && ((r130.1 == 0))))]) rfl ⟨rfl, trivial⟩ ⟨_, rfl, rfl, he354⟩

-- loop.example/g00861/spec.l14Edge
def F_spec_l14Edge (n : Nat) (a0_w : S_l14Wave) (a1_edge : Int) : Option Int := (bif (a1_edge == 0) then (some a0_w.rise_) else (some a0_w.fall_))

-- loop.example/g00861/spec.l14After
def F_spec_l14After (n : Nat) (a0_w : S_l14Wave) (a1_edge : Int) (a2_time : Int) : Option Int := (Option.bind (F_spec_l14Edge n a0_w a1_edge) fun r8 => (bif (a0_w.period_ == 0) then none else (bif (a0_w.period_ == 0) then none else (some (IntKind.wrap IntKind.i64 (a2_time + (Int.tmod (IntKind.wrap IntKind.i64 ((Int.tmod (IntKind.wrap IntKind.i64 (r8 - a2_time)) a0_w.period_) + a0_w.period_)) a0_w.period_)))))))

-- loop.example/g00861/spec.EdgesIn
def F_spec_EdgesIn_L1 (a4_to : Int) (r71 : S_l14Wave) (k0 : (List Int) → Int → Option ((List Int) × Int)) : Nat → (List Int) → Int → Option ((List Int) × Int)
  | 0 => fun _ _ => none
  | m + 1 => fun l110 i114 => (bif decide (i114 ≤ a4_to) then (bif (((l110.length : Int)) == 200) then (some (([] : List Int), 3)) else (Option.bind (appN l110 [i114] 8) fun z146 => (F_spec_EdgesIn_L1 a4_to r71 k0 m z146 (IntKind.wrap IntKind.i64 (i114 + r71.period_))))) else (k0 l110 i114))
theorem F_spec_EdgesIn_L1_z (a4_to : Int) (r71 : S_l14Wave) (k0 : (List Int) → Int → Option ((List Int) × Int)) (l110 : List Int) (i114 : Int) : F_spec_EdgesIn_L1 a4_to r71 k0 0 l110 i114 = none := rfl
theorem F_spec_EdgesIn_L1_s (m : Nat) (a4_to : Int) (r71 : S_l14Wave) (k0 : (List Int) → Int → Option ((List Int) × Int)) (l110 : List Int) (i114 : Int) : F_spec_EdgesIn_L1 a4_to r71 k0 (m + 1) l110 i114 = (bif decide (i114 ≤ a4_to) then (bif (((l110.length : Int)) == 200) then (some (([] : List Int), 3)) else (Option.bind (appN l110 [i114] 8) fun z146 => (F_spec_EdgesIn_L1 a4_to r71 k0 m z146 (IntKind.wrap IntKind.i64 (i114 + r71.period_))))) else (k0 l110 i114)) := rfl

def F_spec_EdgesIn (n : Nat) (a0_list : List S_Clock) (a1_k : Int) (a2_edge : Int) (a3_from : Int) (a4_to : Int) : Option ((List Int) × Int) := (Option.bind (F_spec_l14Code n a0_list a1_k) fun r3 => (bif (r3 != 0) then (some (([] : List Int), r3)) else (Option.bind (F_spec_l01In n a2_edge 0 1) fun r24 => (Option.bind (bif (!r24) then (some true) else (Option.bind (F_spec_l01In n a3_from (-1000000000) 1000000000) fun r30 => (some (!r30)))) fun c30 => (Option.bind (bif c30 then (some true) else (Option.bind (F_spec_l01In n a4_to (-1000000000) 1000000000) fun r43 => (some (!r43)))) fun c43 => (bif c43 then (some (([] : List Int), 2)) else (Option.bind (F_spec_l14Of n a0_list a1_k) fun r71 => (Option.bind (F_spec_l14After n r71 a2_edge a3_from) fun r102 => (F_spec_EdgesIn_L1 a4_to r71 (fun l110 i114 => (some (l110, 0))) n (([] : List Int)) r102)))))))))

theorem Rd_5 : Rd Tryd.prog 5 (cInt .u8) (inK .u8) := Rd.int Tryd.underlying5
theorem Rd_32 : Rd Tryd.prog 32 (cSl (cInt .u8)) (fun xs => xs.length ≤ 9223372036854775807 ∧ ∀ x ∈ xs, (inK .u8) x) := Rd.slice Tryd.underlying32 (by kernel_rfl) rfl Rd_5
end Go.Proofs.YthjagnioabgceaaDoor
