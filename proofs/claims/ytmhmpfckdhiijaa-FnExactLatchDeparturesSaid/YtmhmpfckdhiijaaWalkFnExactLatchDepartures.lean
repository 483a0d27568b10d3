/- The walks: every function that FnExactLatchDepartures reaches computes the plain function that is typed beside it; no condition. -/
import Derived.Test.YtmhmpfckdhiijaaWalkFnExactLatchDeparturesP0
import Derived.Test.YtmhmpfckdhiijaaDat
set_option linter.all false
set_option maxRecDepth 20000
namespace Go.Proofs.Ytmhmpfckdhiijaa
open Go Go.RowKit Go.Eng
-- loop.example/g00861/laws.markLatchLinkS
def F_laws_markLatchLinkS_L1 (k0 : Int → Int → (List S_LatchLink) → Option (Int × (List S_LatchLink))) : Nat → Int → Int → (List S_LatchLink) → Option (Int × (List S_LatchLink))
  | 0 => fun _ _ _ => none
  | m + 1 => fun i8 i9 l10 => (bif decide (i9 < (l10.length : Int)) then (Option.bind (getI l10 i9) fun x13 => (Option.bind (getI ((l10.set (i9).toNat ((S_LatchLink.mk i8 x13.To x13.Delay x13.Shift)))) i9) fun x25 => (Option.bind (getI ((((l10.set (i9).toNat ((S_LatchLink.mk i8 x13.To x13.Delay x13.Shift)))).set (i9).toNat ((S_LatchLink.mk x25.From (IntKind.wrap IntKind.i64 (i8 + 1)) x25.Delay x25.Shift)))) i9) fun x37 => (Option.bind (getI ((((((l10.set (i9).toNat ((S_LatchLink.mk i8 x13.To x13.Delay x13.Shift)))).set (i9).toNat ((S_LatchLink.mk x25.From (IntKind.wrap IntKind.i64 (i8 + 1)) x25.Delay x25.Shift)))).set (i9).toNat ((S_LatchLink.mk x37.From x37.To (IntKind.wrap IntKind.i64 ((IntKind.wrap IntKind.i64 (i8 + 1)) + 1)) x37.Shift)))) i9) fun x49 => (F_laws_markLatchLinkS_L1 k0 m (IntKind.wrap IntKind.i64 ((IntKind.wrap IntKind.i64 ((IntKind.wrap IntKind.i64 ((IntKind.wrap IntKind.i64 (i8 + 1)) + 1)) + 1)) + 1)) (IntKind.wrap IntKind.i64 (i9 + 1)) ((((((((l10.set (i9).toNat ((S_LatchLink.mk i8 x13.To x13.Delay x13.Shift)))).set (i9).toNat ((S_LatchLink.mk x25.From (IntKind.wrap IntKind.i64 (i8 + 1)) x25.Delay x25.Shift)))).set (i9).toNat ((S_LatchLink.mk x37.From x37.To (IntKind.wrap IntKind.i64 ((IntKind.wrap IntKind.i64 (i8 + 1)) + 1)) x37.Shift)))).set (i9).toNat ((S_LatchLink.mk x49.From x49.To x49.Delay (IntKind.wrap IntKind.i64 ((IntKind.wrap IntKind.i64 ((IntKind.wrap IntKind.i64 (i8 + 1)) + 1)) + 1))))))))))) else (k0 i8 i9 l10))
theorem F_laws_markLatchLinkS_L1_z (k0 : Int → Int → (List S_LatchLink) → Option (Int × (List S_LatchLink))) (i8 : Int) (i9 : Int) (l10 : List S_LatchLink) : F_laws_markLatchLinkS_L1 k0 0 i8 i9 l10 = none := rfl
theorem F_laws_markLatchLinkS_L1_s (m : Nat) (k0 : Int → Int → (List S_LatchLink) → Option (Int × (List S_LatchLink))) (i8 : Int) (i9 : Int) (l10 : List S_LatchLink) : F_laws_markLatchLinkS_L1 k0 (m + 1) i8 i9 l10 = (bif decide (i9 < (l10.length : Int)) then (Option.bind (getI l10 i9) fun x13 => (Option.bind (getI ((l10.set (i9).toNat ((S_LatchLink.mk i8 x13.To x13.Delay x13.Shift)))) i9) fun x25 => (Option.bind (getI ((((l10.set (i9).toNat ((S_LatchLink.mk i8 x13.To x13.Delay x13.Shift)))).set (i9).toNat ((S_LatchLink.mk x25.From (IntKind.wrap IntKind.i64 (i8 + 1)) x25.Delay x25.Shift)))) i9) fun x37 => (Option.bind (getI ((((((l10.set (i9).toNat ((S_LatchLink.mk i8 x13.To x13.Delay x13.Shift)))).set (i9).toNat ((S_LatchLink.mk x25.From (IntKind.wrap IntKind.i64 (i8 + 1)) x25.Delay x25.Shift)))).set (i9).toNat ((S_LatchLink.mk x37.From x37.To (IntKind.wrap IntKind.i64 ((IntKind.wrap IntKind.i64 (i8 + 1)) + 1)) x37.Shift)))) i9) fun x49 => (F_laws_markLatchLinkS_L1 k0 m (IntKind.wrap IntKind.i64 ((IntKind.wrap IntKind.i64 ((IntKind.wrap IntKind.i64 ((IntKind.wrap IntKind.i64 (i8 + 1)) + 1)) + 1)) + 1)) (IntKind.wrap IntKind.i64 (i9 + 1)) ((((((((l10.set (i9).toNat ((S_LatchLink.mk i8 x13.To x13.Delay x13.Shift)))).set (i9).toNat ((S_LatchLink.mk x25.From (IntKind.wrap IntKind.i64 (i8 + 1)) x25.Delay x25.Shift)))).set (i9).toNat ((S_LatchLink.mk x37.From x37.To (IntKind.wrap IntKind.i64 ((IntKind.wrap IntKind.i64 (i8 + 1)) + 1)) x37.Shift)))).set (i9).toNat ((S_LatchLink.mk x49.From x49.To x49.Delay (IntKind.wrap IntKind.i64 ((IntKind.wrap IntKind.i64 ((IntKind.wrap IntKind.i64 (i8 + 1)) + 1)) + 1))))))))))) else (k0 i8 i9 l10)) := rfl

def F_laws_markLatchLinkS (n : Nat) (a0_a : List S_LatchLink) (a1_k : Int) : Option (Int × (List S_LatchLink)) := (F_laws_markLatchLinkS_L1 (fun i8 i9 l10 => (some (i8, l10))) n a1_k 0 a0_a)
set_option maxHeartbeats 4000000 in
theorem W_laws_markLatchLinkS {n : Nat} {a0_a : List S_LatchLink} {a1_k : Int} {r : Int × (List S_LatchLink)} {w : World} {v1 : Value} {B3 : Nat} (hF : F_laws_markLatchLinkS n a0_a a1_k = some r) (ha2 : ownR C_LatchLink w B3 (Iv 0 0) 77 a0_a v1) :
    Calls Try.prog 84 [v1, .int .i64 a1_k].toArray w (Ret fun u w2 => u = .int .i64 r.1 ∧ ownR C_LatchLink w2 B3 (Iv 0 0) 77 r.2 v1 ∧ But (pO v1) w w2) := by
  refine calls_of Try.func84 rfl Try.ntmps84 ?_
  have he0 : But (pO v1) w w := But.refl _ w
  have hbd5 := ownR.blk ha2
  unfold F_laws_markLatchLinkS at hF
  refine WC.seq ?_
  refine WC.region ?_
  refine TL.yld rfl rfl (yld_assign rfl rfl) ?_
  refine TL.done ?_
  refine NX.seq ?_
  refine WC.seq ?_
  refine WC.seq ?_
  refine WC.region ?_
  refine TL.yld rfl rfl (yld_assign rfl rfl) ?_
  refine TL.done ?_
  refine NX.seq ?_
  refine WC.block ?_
  refine WC.loop (fun m12 a wl => ∃ (i8 : Int) (i9 : Int) (l10 : List S_LatchLink), Kn 41 [(0, v1), (1, .int .i64 i8), (5, .int .i64 i9)] a ∧ But (pO v1) w wl ∧ w.heap.size ≤ wl.heap.size ∧ ownR C_LatchLink wl (B3) (Iv 0 0) 77 l10 v1 ∧ F_laws_markLatchLinkS_L1 (fun i8 i9 l10 => (some (i8, l10))) m12 i8 i9 l10 = some r) n ?_ ?_
  · intro a hK; exact ⟨a1_k, 0, a0_a, hK.weaken ⟨rfl, rfl, rfl, trivial⟩, he0, Nat.le_refl _, ha2, hF⟩
  · rintro m12 a w6 ⟨i8, i9, l10, hK, he7, hz13, hs11, hF⟩
    revert hK; revert a; refine (?_ : WC _ _ _ _ _ _)
    cases m12 with
    | zero => rw [F_laws_markLatchLinkS_L1_z] at hF; cases hF
    | succ m12 =>
      rw [F_laws_markLatchLinkS_L1_s] at hF
      refine WC.seq ?_
      refine WC.seq ?_
      refine WC.region ?_
      refine TL.yld rfl rfl (yld_move rfl rfl) ?_
      refine TL.yld rfl rfl (yld_move rfl rfl) ?_
      refine TL.yld rfl rfl (yld_len_own (c := C_LatchLink) rfl Try.underlying36 rfl hs11) ?_
      refine TL.yld rfl rfl (yld_lss rfl rfl rfl) ?_
      refine TL.done ?_
      refine NX.seq ?_
      refine WC.cond rfl ?_ ?_
      · intro hc14
        replace hF := bif_t hc14 hF
        refine WC.skip' ?_
        refine NX.seq ?_
        refine WC.seq ?_
        refine WC.block ?_
        refine WC.seq ?_
        refine WC.region ?_
        refine TL.yld rfl rfl (yld_move rfl rfl) ?_
        refine TL.yld rfl rfl (yld_move rfl rfl) ?_
        refine TL.yld rfl rfl (yld_move rfl rfl) ?_
        obtain ⟨x15, hy16, hF⟩ := bsome hF
        refine TL.ye rfl rfl (ye_index_own (c := C_LatchLink) rfl Try.underlying36 cn_77 rfl rfl hs11 hy16) ?_
        rintro _ ⟨g17, us19, rfl, hg18, hr20, hcl21⟩
        have hr20r := hr20
        obtain rfl := C_LatchLink_open hr20
        refine TL.yld rfl rfl (yld_fieldAddr rfl fo_77_0 rfl) ?_
        refine TL.eff rfl rfl (eff_store_own (c := C_LatchLink) (us' := [.int .i64 i8, .int .i64 x15.To, .int .i64 x15.Delay, .int .i64 x15.Shift]) (y' := (S_LatchLink.mk i8 x15.To x15.Delay x15.Shift)) 0 _ rfl rfl rfl hs11 hg18 hy16 rfl cn_2 rfl hr20r hcl21 rfl rfl C_LatchLink_mk (fun k h => absurd h.2 (Nat.not_lt_zero k))) ?_
        rintro _ w22 ⟨hu23, hs24⟩
        have he25 : But (pO v1) w w22 := But.upd he7 hu23 (Or.inl hg18)
        have hz26 := (hu23).size
        refine TL.done ?_
        refine NX.seq ?_
        refine WC.seq ?_
        refine WC.region ?_
        refine TL.yld rfl rfl (yld_move rfl rfl) ?_
        refine TL.yld rfl rfl (yld_add rfl rfl rfl) ?_
        refine TL.yld rfl rfl (yld_assign rfl rfl) ?_
        refine TL.done ?_
        refine NX.seq ?_
        refine WC.seq ?_
        refine WC.region ?_
        refine TL.yld rfl rfl (yld_move rfl rfl) ?_
        refine TL.yld rfl rfl (yld_move rfl rfl) ?_
        refine TL.yld rfl rfl (yld_move rfl rfl) ?_
        obtain ⟨x27, hy28, hF⟩ := bsome hF
        refine TL.ye rfl rfl (ye_index_own (c := C_LatchLink) rfl Try.underlying36 cn_77 rfl rfl hs24 hy28) ?_
        rintro _ ⟨g29, us31, rfl, hg30, hr32, hcl33⟩
        have hr32r := hr32
        obtain rfl := C_LatchLink_open hr32
        refine TL.yld rfl rfl (yld_fieldAddr rfl fo_77_1 rfl) ?_
        refine TL.eff rfl rfl (eff_store_own (c := C_LatchLink) (us' := [.int .i64 x27.From, .int .i64 (IntKind.wrap IntKind.i64 (i8 + 1)), .int .i64 x27.Delay, .int .i64 x27.Shift]) (y' := (S_LatchLink.mk x27.From (IntKind.wrap IntKind.i64 (i8 + 1)) x27.Delay x27.Shift)) 1 _ rfl rfl rfl hs24 hg30 hy28 rfl cn_2 rfl hr32r hcl33 rfl rfl C_LatchLink_mk (fun k h => absurd h.2 (Nat.not_lt_zero k))) ?_
        rintro _ w34 ⟨hu35, hs36⟩
        have he37 : But (pO v1) w w34 := But.upd he25 hu35 (Or.inl hg30)
        have hz38 := (hu35).size
        refine TL.done ?_
        refine NX.seq ?_
        refine WC.seq ?_
        refine WC.region ?_
        refine TL.yld rfl rfl (yld_move rfl rfl) ?_
        refine TL.yld rfl rfl (yld_add rfl rfl rfl) ?_
        refine TL.yld rfl rfl (yld_assign rfl rfl) ?_
        refine TL.done ?_
        refine NX.seq ?_
        refine WC.seq ?_
        refine WC.region ?_
        refine TL.yld rfl rfl (yld_move rfl rfl) ?_
        refine TL.yld rfl rfl (yld_move rfl rfl) ?_
        refine TL.yld rfl rfl (yld_move rfl rfl) ?_
        obtain ⟨x39, hy40, hF⟩ := bsome hF
        refine TL.ye rfl rfl (ye_index_own (c := C_LatchLink) rfl Try.underlying36 cn_77 rfl rfl hs36 hy40) ?_
        rintro _ ⟨g41, us43, rfl, hg42, hr44, hcl45⟩
        have hr44r := hr44
        obtain rfl := C_LatchLink_open hr44
        refine TL.yld rfl rfl (yld_fieldAddr rfl fo_77_2 rfl) ?_
        refine TL.eff rfl rfl (eff_store_own (c := C_LatchLink) (us' := [.int .i64 x39.From, .int .i64 x39.To, .int .i64 (IntKind.wrap IntKind.i64 ((IntKind.wrap IntKind.i64 (i8 + 1)) + 1)), .int .i64 x39.Shift]) (y' := (S_LatchLink.mk x39.From x39.To (IntKind.wrap IntKind.i64 ((IntKind.wrap IntKind.i64 (i8 + 1)) + 1)) x39.Shift)) 2 _ rfl rfl rfl hs36 hg42 hy40 rfl cn_2 rfl hr44r hcl45 rfl rfl C_LatchLink_mk (fun k h => absurd h.2 (Nat.not_lt_zero k))) ?_
        rintro _ w46 ⟨hu47, hs48⟩
        have he49 : But (pO v1) w w46 := But.upd he37 hu47 (Or.inl hg42)
        have hz50 := (hu47).size
        refine TL.done ?_
        refine NX.seq ?_
        refine WC.seq ?_
        refine WC.region ?_
        refine TL.yld rfl rfl (yld_move rfl rfl) ?_
        refine TL.yld rfl rfl (yld_add rfl rfl rfl) ?_
        refine TL.yld rfl rfl (yld_assign rfl rfl) ?_
        refine TL.done ?_
        refine NX.seq ?_
        refine WC.seq ?_
        refine WC.region ?_
        refine TL.yld rfl rfl (yld_move rfl rfl) ?_
        refine TL.yld rfl rfl (yld_move rfl rfl) ?_
        refine TL.yld rfl rfl (yld_move rfl rfl) ?_
        obtain ⟨x51, hy52, hF⟩ := bsome hF
        refine TL.ye rfl rfl (ye_index_own (c := C_LatchLink) rfl Try.underlying36 cn_77 rfl rfl hs48 hy52) ?_
        rintro _ ⟨g53, us55, rfl, hg54, hr56, hcl57⟩
        have hr56r := hr56
        obtain rfl := C_LatchLink_open hr56
        refine TL.yld rfl rfl (yld_fieldAddr rfl fo_77_3 rfl) ?_
        refine TL.eff rfl rfl (eff_store_own (c := C_LatchLink) (us' := [.int .i64 x51.From, .int .i64 x51.To, .int .i64 x51.Delay, .int .i64 (IntKind.wrap IntKind.i64 ((IntKind.wrap IntKind.i64 ((IntKind.wrap IntKind.i64 (i8 + 1)) + 1)) + 1))]) (y' := (S_LatchLink.mk x51.From x51.To x51.Delay (IntKind.wrap IntKind.i64 ((IntKind.wrap IntKind.i64 ((IntKind.wrap IntKind.i64 (i8 + 1)) + 1)) + 1)))) 3 _ rfl rfl rfl hs48 hg54 hy52 rfl cn_2 rfl hr56r hcl57 rfl rfl C_LatchLink_mk (fun k h => absurd h.2 (Nat.not_lt_zero k))) ?_
        rintro _ w58 ⟨hu59, hs60⟩
        have he61 : But (pO v1) w w58 := But.upd he49 hu59 (Or.inl hg54)
        have hz62 := (hu59).size
        refine TL.done ?_
        refine NX.seq ?_
        refine WC.region ?_
        refine TL.yld rfl rfl (yld_move rfl rfl) ?_
        refine TL.yld rfl rfl (yld_add rfl rfl rfl) ?_
        refine TL.yld rfl rfl (yld_assign rfl rfl) ?_
        refine TL.done ?_
        refine NX.blk_n ?_
        refine NX.seq ?_
        refine WC.region ?_
        refine TL.yld rfl rfl (yld_move rfl rfl) ?_
        refine TL.yld rfl rfl (yld_add rfl rfl rfl) ?_
        refine TL.yld rfl rfl (yld_assign rfl rfl) ?_
        refine TL.done ?_
        refine NX.then_n ?_
        intro a hK; exact ⟨m12, Nat.lt_succ_self m12, (IntKind.wrap IntKind.i64 ((IntKind.wrap IntKind.i64 ((IntKind.wrap IntKind.i64 ((IntKind.wrap IntKind.i64 (i8 + 1)) + 1)) + 1)) + 1)), (IntKind.wrap IntKind.i64 (i9 + 1)), ((((((((l10.set (i9).toNat ((S_LatchLink.mk i8 x15.To x15.Delay x15.Shift)))).set (i9).toNat ((S_LatchLink.mk x27.From (IntKind.wrap IntKind.i64 (i8 + 1)) x27.Delay x27.Shift)))).set (i9).toNat ((S_LatchLink.mk x39.From x39.To (IntKind.wrap IntKind.i64 ((IntKind.wrap IntKind.i64 (i8 + 1)) + 1)) x39.Shift)))).set (i9).toNat ((S_LatchLink.mk x51.From x51.To x51.Delay (IntKind.wrap IntKind.i64 ((IntKind.wrap IntKind.i64 ((IntKind.wrap IntKind.i64 (i8 + 1)) + 1)) + 1)))))), hK.weaken ⟨rfl, rfl, rfl, trivial⟩, he61, (by omega), hs60, hF⟩
      · intro hc63
        replace hF := bif_f hc63 hF
        refine WC.exit' ?_
        refine NX.then_e ?_
        refine NX.then_e ?_
        refine NX.blk_hit ?_
        refine NX.seq ?_
        refine WC.seq ?_
        refine WC.region ?_
        refine TL.yld rfl rfl (yld_move rfl rfl) ?_
        refine TL.yld rfl rfl (yld_assign rfl rfl) ?_
        refine TL.done ?_
        refine NX.seq ?_
        refine WC.ret' ?_
        obtain rfl := Option.some.inj hF
        exact NX.end (rs := [.tmp 4]) (vs := [.int .i64 i8]) rfl ⟨rfl, trivial⟩ ⟨_, rfl, rfl, hs11, he7⟩

-- loop.example/g00861/laws.markLatchSystem
def F_laws_markLatchSystem (n : Nat) (a0_a : S_LatchSystem) (a1_k : Int) : Option (Int × (List S_Latch) × (List S_LatchLink)) := (Option.bind (F_laws_markLatchS n a0_a.Latches a1_k) fun r19 => (Option.bind (F_laws_markLatchLinkS n a0_a.Links r19.1) fun r27 => (some (r27.1, r19.2, r27.2))))
set_option maxHeartbeats 4000000 in
theorem W_laws_markLatchSystem {n : Nat} {a0_a : S_LatchSystem} {a1_k : Int} {r : Int × (List S_Latch) × (List S_LatchLink)} {w : World} {v1 : Value} {B3 : Nat} {v6 : Value} {B8 : Nat} (hF : F_laws_markLatchSystem n a0_a a1_k = some r) (ha2 : ownR C_Latch w B3 (Iv 0 0) 50 a0_a.Latches v1) (ha7 : ownR C_LatchLink w B8 (Iv 0 0) 77 a0_a.Links v6) (hh11 : ∀ g q, v6.ownBlock = some g → v1.ownBlock = some q → g ≠ q) :
    Calls Try.prog 43 [.agg #[v1, v6], .int .i64 a1_k].toArray w (Ret fun u w2 => u = .int .i64 r.1 ∧ ownR C_Latch w2 B3 (Iv 0 0) 50 r.2.1 v1 ∧ ownR C_LatchLink w2 B8 (Iv 0 0) 77 r.2.2 v6 ∧ But (por (pO v1) (pO v6)) w w2) := by
  refine calls_of Try.func43 rfl Try.ntmps43 ?_
  have he0 : But (por (pO v1) (pO v6)) w w := But.refl _ w
  have hbd5 := ownR.blk ha2
  have hbd10 := ownR.blk ha7
  unfold F_laws_markLatchSystem at hF
  refine WC.seq ?_
  refine WC.region ?_
  refine TL.eff rfl rfl (eff_box rfl rfl) ?_
  rintro _ w13 ⟨b12, rfl, hn14⟩
  obtain ⟨hn14e, hn14s, hn14x, hb15⟩ := hn14
  have hb15 : Box w13 b12 [v1, v6] 38 := hb15
  have he17 : But (por (pO v1) (pO v6)) w w13 := But.ext he0 hn14x
  have ha2 := ownR.ext ha2 hn14x
  have ha7 := ownR.ext ha7 hn14x
  have hz18 := (hn14x).size
  have hlo16 : w.heap.size ≤ b12 := by rw [hn14e]; exact (he0).size
  refine TL.yld rfl rfl (yld_assign rfl rfl) ?_
  refine TL.done ?_
  refine NX.seq ?_
  refine WC.seq ?_
  refine WC.region ?_
  refine TL.yld rfl rfl (yld_fieldAddr rfl fo_38_0 rfl) ?_
  refine TL.yld rfl rfl (yld_load1 0 rfl ag_35 rfl (Box.cells hb15) rfl rfl) ?_
  refine TL.yld rfl rfl (yld_move rfl rfl) ?_
  obtain ⟨r19, hr20, hF⟩ := bsome hF
  refine TL.eff rfl rfl (eff_call rfl gf_83 rfl (W_laws_markLatchS hr20 ha2)) ?_
  rintro _ w21 ⟨rfl, hs23, hx22⟩
  have he24 : But (por (pO v1) (pO v6)) w w21 := But.but he17 hx22 (all_pO (fun g hg => (Or.inl (Or.inl hg))))
  have hb15 := Box.but hb15 hx22 (all_pO (fun g hg => by have := hbd5 g hg; omega))
  have hp25 : ∀ g q, v1.ownBlock = some g → v6.ownBlock = some q → g ≠ q := (fun g q hg hq e => hh11 q g hq hg e.symm)
  have ha7 := ownR.butF ha7 hx22 (all_pO (fun g hg q hq => hp25 g q hg hq))
  have hz26 := (hx22).size
  refine TL.yld rfl rfl (yld_assign rfl rfl) ?_
  refine TL.done ?_
  refine NX.seq ?_
  refine WC.seq ?_
  refine WC.region ?_
  refine TL.yld rfl rfl (yld_fieldAddr rfl fo_38_1 rfl) ?_
  refine TL.yld rfl rfl (yld_load1 1 rfl ag_36 rfl (Box.cells hb15) rfl rfl) ?_
  refine TL.yld rfl rfl (yld_move rfl rfl) ?_
  obtain ⟨r27, hr28, hF⟩ := bsome hF
  refine TL.eff rfl rfl (eff_call rfl gf_84 rfl (W_laws_markLatchLinkS hr28 ha7)) ?_
  rintro _ w29 ⟨rfl, hs31, hx30⟩
  have he32 : But (por (pO v1) (pO v6)) w w29 := But.but he24 hx30 (all_pO (fun g hg => (Or.inl (Or.inr hg))))
  have hb15 := Box.but hb15 hx30 (all_pO (fun g hg => by have := hbd10 g hg; omega))
  have hp33 : ∀ g q, v6.ownBlock = some g → v1.ownBlock = some q → g ≠ q := hh11
  have hs23 := ownR.butF hs23 hx30 (all_pO (fun g hg q hq => hp33 g q hg hq))
  have hz34 := (hx30).size
  refine TL.yld rfl rfl (yld_assign rfl rfl) ?_
  refine TL.done ?_
  refine NX.seq ?_
  refine WC.seq ?_
  refine WC.region ?_
  refine TL.yld rfl rfl (yld_move rfl rfl) ?_
  refine TL.yld rfl rfl (yld_assign rfl rfl) ?_
  refine TL.done ?_
  refine NX.seq ?_
  refine WC.ret' ?_
  obtain rfl := Option.some.inj hF
  exact NX.end (rs := [.tmp 4]) (vs := [.int .i64 r27.1]) rfl ⟨rfl, trivial⟩ ⟨_, rfl, rfl, hs23, hs31, he32⟩

-- loop.example/g00861/laws.markInt64S
def F_laws_markInt64S_L1 (k0 : Int → Int → (List Int) → Option (Int × (List Int))) : Nat → Int → Int → (List Int) → Option (Int × (List Int))
  | 0 => fun _ _ _ => none
  | m + 1 => fun i8 i9 l10 => (bif decide (i9 < (l10.length : Int)) then (Option.bind (getI l10 i9) fun x13 => (F_laws_markInt64S_L1 k0 m (IntKind.wrap IntKind.i64 (i8 + 1)) (IntKind.wrap IntKind.i64 (i9 + 1)) ((l10.set (i9).toNat i8)))) else (k0 i8 i9 l10))
theorem F_laws_markInt64S_L1_z (k0 : Int → Int → (List Int) → Option (Int × (List Int))) (i8 : Int) (i9 : Int) (l10 : List Int) : F_laws_markInt64S_L1 k0 0 i8 i9 l10 = none := rfl
theorem F_laws_markInt64S_L1_s (m : Nat) (k0 : Int → Int → (List Int) → Option (Int × (List Int))) (i8 : Int) (i9 : Int) (l10 : List Int) : F_laws_markInt64S_L1 k0 (m + 1) i8 i9 l10 = (bif decide (i9 < (l10.length : Int)) then (Option.bind (getI l10 i9) fun x13 => (F_laws_markInt64S_L1 k0 m (IntKind.wrap IntKind.i64 (i8 + 1)) (IntKind.wrap IntKind.i64 (i9 + 1)) ((l10.set (i9).toNat i8)))) else (k0 i8 i9 l10)) := rfl

def F_laws_markInt64S (n : Nat) (a0_a : List Int) (a1_k : Int) : Option (Int × (List Int)) := (F_laws_markInt64S_L1 (fun i8 i9 l10 => (some (i8, l10))) n a1_k 0 a0_a)
set_option maxHeartbeats 4000000 in
theorem W_laws_markInt64S {n : Nat} {a0_a : List Int} {a1_k : Int} {r : Int × (List Int)} {w : World} {v1 : Value} {B3 : Nat} (hF : F_laws_markInt64S n a0_a a1_k = some r) (ha2 : ownR (cInt .i64) w B3 (Iv 0 0) 2 a0_a v1) :
    Calls Try.prog 48 [v1, .int .i64 a1_k].toArray w (Ret fun u w2 => u = .int .i64 r.1 ∧ ownR (cInt .i64) w2 B3 (Iv 0 0) 2 r.2 v1 ∧ But (pO v1) w w2) := by
  refine calls_of Try.func48 rfl Try.ntmps48 ?_
  have he0 : But (pO v1) w w := But.refl _ w
  have hbd5 := ownR.blk ha2
  unfold F_laws_markInt64S at hF
  refine WC.seq ?_
  refine WC.region ?_
  refine TL.yld rfl rfl (yld_assign rfl rfl) ?_
  refine TL.done ?_
  refine NX.seq ?_
  refine WC.seq ?_
  refine WC.seq ?_
  refine WC.region ?_
  refine TL.yld rfl rfl (yld_assign rfl rfl) ?_
  refine TL.done ?_
  refine NX.seq ?_
  refine WC.block ?_
  refine WC.loop (fun m12 a wl => ∃ (i8 : Int) (i9 : Int) (l10 : List Int), Kn 19 [(0, v1), (1, .int .i64 i8), (5, .int .i64 i9)] a ∧ But (pO v1) w wl ∧ w.heap.size ≤ wl.heap.size ∧ ownR (cInt .i64) wl (B3) (Iv 0 0) 2 l10 v1 ∧ F_laws_markInt64S_L1 (fun i8 i9 l10 => (some (i8, l10))) m12 i8 i9 l10 = some r) n ?_ ?_
  · intro a hK; exact ⟨a1_k, 0, a0_a, hK.weaken ⟨rfl, rfl, rfl, trivial⟩, he0, Nat.le_refl _, ha2, hF⟩
  · rintro m12 a w6 ⟨i8, i9, l10, hK, he7, hz13, hs11, hF⟩
    revert hK; revert a; refine (?_ : WC _ _ _ _ _ _)
    cases m12 with
    | zero => rw [F_laws_markInt64S_L1_z] at hF; cases hF
    | succ m12 =>
      rw [F_laws_markInt64S_L1_s] at hF
      refine WC.seq ?_
      refine WC.seq ?_
      refine WC.region ?_
      refine TL.yld rfl rfl (yld_move rfl rfl) ?_
      refine TL.yld rfl rfl (yld_move rfl rfl) ?_
      refine TL.yld rfl rfl (yld_len_own (c := (cInt .i64)) rfl Try.underlying45 rfl hs11) ?_
      refine TL.yld rfl rfl (yld_lss rfl rfl rfl) ?_
      refine TL.done ?_
      refine NX.seq ?_
      refine WC.cond rfl ?_ ?_
      · intro hc14
        replace hF := bif_t hc14 hF
        refine WC.skip' ?_
        refine NX.seq ?_
        refine WC.seq ?_
        refine WC.block ?_
        refine WC.seq ?_
        refine WC.region ?_
        refine TL.yld rfl rfl (yld_move rfl rfl) ?_
        refine TL.yld rfl rfl (yld_move rfl rfl) ?_
        refine TL.yld rfl rfl (yld_move rfl rfl) ?_
        obtain ⟨x15, hy16, hF⟩ := bsome hF
        refine TL.ye rfl rfl (ye_index_own (c := (cInt .i64)) rfl Try.underlying45 cn_2 rfl rfl hs11 hy16) ?_
        rintro _ ⟨g17, us19, rfl, hg18, hr20, hcl21⟩
        have hr20r := hr20
        obtain rfl := hr20
        refine TL.eff rfl rfl (eff_store_own (c := (cInt .i64)) (us' := [.int .i64 i8]) (y' := i8) 0 _ rfl rfl rfl hs11 hg18 hy16 rfl cn_2 rfl hr20r hcl21 rfl rfl rfl (fun k h => absurd h.2 (Nat.not_lt_zero k))) ?_
        rintro _ w22 ⟨hu23, hs24⟩
        have he25 : But (pO v1) w w22 := But.upd he7 hu23 (Or.inl hg18)
        have hz26 := (hu23).size
        refine TL.done ?_
        refine NX.seq ?_
        refine WC.region ?_
        refine TL.yld rfl rfl (yld_move rfl rfl) ?_
        refine TL.yld rfl rfl (yld_add rfl rfl rfl) ?_
        refine TL.yld rfl rfl (yld_assign rfl rfl) ?_
        refine TL.done ?_
        refine NX.blk_n ?_
        refine NX.seq ?_
        refine WC.region ?_
        refine TL.yld rfl rfl (yld_move rfl rfl) ?_
        refine TL.yld rfl rfl (yld_add rfl rfl rfl) ?_
        refine TL.yld rfl rfl (yld_assign rfl rfl) ?_
        refine TL.done ?_
        refine NX.then_n ?_
        intro a hK; exact ⟨m12, Nat.lt_succ_self m12, (IntKind.wrap IntKind.i64 (i8 + 1)), (IntKind.wrap IntKind.i64 (i9 + 1)), ((l10.set (i9).toNat i8)), hK.weaken ⟨rfl, rfl, rfl, trivial⟩, he25, (by omega), hs24, hF⟩
      · intro hc27
        replace hF := bif_f hc27 hF
        refine WC.exit' ?_
        refine NX.then_e ?_
        refine NX.then_e ?_
        refine NX.blk_hit ?_
        refine NX.seq ?_
        refine WC.seq ?_
        refine WC.region ?_
        refine TL.yld rfl rfl (yld_move rfl rfl) ?_
        refine TL.yld rfl rfl (yld_assign rfl rfl) ?_
        refine TL.done ?_
        refine NX.seq ?_
        refine WC.ret' ?_
        obtain rfl := Option.some.inj hF
        exact NX.end (rs := [.tmp 4]) (vs := [.int .i64 i8]) rfl ⟨rfl, trivial⟩ ⟨_, rfl, rfl, hs11, he7⟩

-- loop.example/g00861/laws.heldInt64S
def F_laws_heldInt64S_L1 (a0_a : List Int) (k0 : Int → Int → Option Int) : Nat → Int → Int → Option Int
  | 0 => fun _ _ => none
  | m + 1 => fun i5 i6 => (bif decide (i6 < (a0_a.length : Int)) then (Option.bind (getI a0_a i6) fun x8 => (bif (x8 != i5) then (some (-1)) else (F_laws_heldInt64S_L1 a0_a k0 m (IntKind.wrap IntKind.i64 (i5 + 1)) (IntKind.wrap IntKind.i64 (i6 + 1))))) else (k0 i5 i6))
theorem F_laws_heldInt64S_L1_z (a0_a : List Int) (k0 : Int → Int → Option Int) (i5 : Int) (i6 : Int) : F_laws_heldInt64S_L1 a0_a k0 0 i5 i6 = none := rfl
theorem F_laws_heldInt64S_L1_s (m : Nat) (a0_a : List Int) (k0 : Int → Int → Option Int) (i5 : Int) (i6 : Int) : F_laws_heldInt64S_L1 a0_a k0 (m + 1) i5 i6 = (bif decide (i6 < (a0_a.length : Int)) then (Option.bind (getI a0_a i6) fun x8 => (bif (x8 != i5) then (some (-1)) else (F_laws_heldInt64S_L1 a0_a k0 m (IntKind.wrap IntKind.i64 (i5 + 1)) (IntKind.wrap IntKind.i64 (i6 + 1))))) else (k0 i5 i6)) := rfl

def F_laws_heldInt64S (n : Nat) (a0_a : List Int) (a1_k : Int) : Option Int := (F_laws_heldInt64S_L1 a0_a (fun i5 i6 => (some i5)) n a1_k 0)
set_option maxHeartbeats 4000000 in
theorem W_laws_heldInt64S {n : Nat} {a0_a : List Int} {a1_k : Int} {r : Int} {w : World} {v1 : Value} (hF : F_laws_heldInt64S n a0_a a1_k = some r) (ha2 : slRep (cInt .i64) w (Iv 0 w.heap.size) a0_a v1) :
    Calls Try.prog 49 [v1, .int .i64 a1_k].toArray w (Ret fun u w2 => u = .int .i64 r ∧ Ext w w2) := by
  refine calls_of Try.func49 rfl Try.ntmps49 ?_
  have he0 : Ext w w := Ext.refl w
  unfold F_laws_heldInt64S at hF
  refine WC.seq ?_
  refine WC.region ?_
  refine TL.yld rfl rfl (yld_assign rfl rfl) ?_
  refine TL.done ?_
  refine NX.seq ?_
  refine WC.seq ?_
  refine WC.seq ?_
  refine WC.region ?_
  refine TL.yld rfl rfl (yld_assign rfl rfl) ?_
  refine TL.done ?_
  refine NX.seq ?_
  refine WC.block ?_
  refine WC.loop (fun m7 a wl => ∃ (i5 : Int) (i6 : Int), Kn 21 [(0, v1), (1, .int .i64 i5), (5, .int .i64 i6)] a ∧ Ext w wl ∧ w.heap.size ≤ wl.heap.size ∧ F_laws_heldInt64S_L1 a0_a (fun i5 i6 => (some i5)) m7 i5 i6 = some r) n ?_ ?_
  · intro a hK; exact ⟨a1_k, 0, hK.weaken ⟨rfl, rfl, rfl, trivial⟩, he0, Nat.le_refl _, hF⟩
  · rintro m7 a w3 ⟨i5, i6, hK, he4, hz8, hF⟩
    revert hK; revert a; refine (?_ : WC _ _ _ _ _ _)
    cases m7 with
    | zero => rw [F_laws_heldInt64S_L1_z] at hF; cases hF
    | succ m7 =>
      rw [F_laws_heldInt64S_L1_s] at hF
      refine WC.seq ?_
      refine WC.seq ?_
      refine WC.region ?_
      refine TL.yld rfl rfl (yld_move rfl rfl) ?_
      refine TL.yld rfl rfl (yld_move rfl rfl) ?_
      refine TL.yld rfl rfl (ye_len (c := (cInt .i64)) rfl Try.underlying45 rfl (slRep.old ha2 he4 (Nat.le_refl _))) ?_
      refine TL.yld rfl rfl (yld_lss rfl rfl rfl) ?_
      refine TL.done ?_
      refine NX.seq ?_
      refine WC.cond rfl ?_ ?_
      · intro hc9
        replace hF := bif_t hc9 hF
        refine WC.skip' ?_
        refine NX.seq ?_
        refine WC.seq ?_
        refine WC.block ?_
        refine WC.seq ?_
        refine WC.seq ?_
        refine WC.region ?_
        refine TL.yld rfl rfl (yld_move rfl rfl) ?_
        refine TL.yld rfl rfl (yld_move rfl rfl) ?_
        obtain ⟨x10, hy11, hF⟩ := bsome hF
        refine TL.ye rfl rfl (ye_index (c := (cInt .i64)) rfl Try.underlying45 cn_2 rfl rfl (slRep.old ha2 he4 (Nat.le_refl _)) hy11) ?_
        rintro _ ⟨b12, o13, us14, rfl, hib17, hr15, hcl16⟩
        have hib17 : 0 ≤ b12 ∧ b12 < w.heap.size := ⟨hib17.1, by have := hib17.2; omega⟩
        obtain rfl := hr15
        refine TL.yld rfl rfl (yld_load1 0 rfl ag_2 rfl hcl16 rfl rfl) ?_
        refine TL.yld rfl rfl (yld_move rfl rfl) ?_
        refine TL.yld rfl rfl (yld_neq rfl rfl rfl) ?_
        refine TL.done ?_
        refine NX.seq ?_
        refine WC.cond rfl ?_ ?_
        · intro hc18
          replace hF := bif_t hc18 hF
          refine WC.seq ?_
          refine WC.region ?_
          refine TL.yld rfl rfl (yld_assign rfl rfl) ?_
          refine TL.done ?_
          refine NX.seq ?_
          refine WC.ret' ?_
          refine NX.then_r ?_
          refine NX.blk_r ?_
          refine NX.then_r ?_
          refine NX.then_r ?_
          refine NX.blk_r ?_
          refine NX.then_r ?_
          obtain rfl := Option.some.inj hF
          exact NX.end (rs := [.tmp 4]) (vs := [.int .i64 (-1)]) rfl ⟨rfl, trivial⟩ ⟨_, rfl, rfl, he4⟩
        · intro hc19
          replace hF := bif_f hc19 hF
          refine WC.skip' ?_
          refine NX.seq ?_
          refine WC.region ?_
          refine TL.yld rfl rfl (yld_move rfl rfl) ?_
          refine TL.yld rfl rfl (yld_add rfl rfl rfl) ?_
          refine TL.yld rfl rfl (yld_assign rfl rfl) ?_
          refine TL.done ?_
          refine NX.blk_n ?_
          refine NX.seq ?_
          refine WC.region ?_
          refine TL.yld rfl rfl (yld_move rfl rfl) ?_
          refine TL.yld rfl rfl (yld_add rfl rfl rfl) ?_
          refine TL.yld rfl rfl (yld_assign rfl rfl) ?_
          refine TL.done ?_
          refine NX.then_n ?_
          intro a hK; exact ⟨m7, Nat.lt_succ_self m7, (IntKind.wrap IntKind.i64 (i5 + 1)), (IntKind.wrap IntKind.i64 (i6 + 1)), hK.weaken ⟨rfl, rfl, rfl, trivial⟩, he4, (by omega), hF⟩
      · intro hc20
        replace hF := bif_f hc20 hF
        refine WC.exit' ?_
        refine NX.then_e ?_
        refine NX.then_e ?_
        refine NX.blk_hit ?_
        refine NX.seq ?_
        refine WC.seq ?_
        refine WC.region ?_
        refine TL.yld rfl rfl (yld_move rfl rfl) ?_
        refine TL.yld rfl rfl (yld_assign rfl rfl) ?_
        refine TL.done ?_
        refine NX.seq ?_
        refine WC.ret' ?_
        obtain rfl := Option.some.inj hF
        exact NX.end (rs := [.tmp 4]) (vs := [.int .i64 i5]) rfl ⟨rfl, trivial⟩ ⟨_, rfl, rfl, he4⟩

-- loop.example/g00861/laws.FnExactLatchDepartures
def F_laws_FnExactLatchDepartures (n : Nat) (a0_aS : S_LatchSystem) : Option Bool := (Option.bind (F_laws_szLatchSystem n a0_aS 1048576) fun r12 => (bif decide (r12 < 0) then (some true) else (Option.bind (F_laws_toLatchSystem n a0_aS) fun r20 => (Option.bind (F_spec_LatchDepartures n r20) fun r35 => (Option.bind (F_laws_toLatchSystem n a0_aS) fun r45 => (Option.bind (F_impl_LatchDepartures n r45) fun r72 => (Option.bind (F_laws_eqInt64S n r72.1 r35.1) fun r82 => (bif ((!r82) || ((r72.2 != r35.2))) then (some false) else (Option.bind (F_laws_toLatchSystem n a0_aS) fun r95 => (Option.bind (F_laws_eqLatchSystem n r45 r95) fun r110 => (bif (!r110) then (some false) else (Option.bind (F_laws_markLatchSystem n r45 1) fun r140 => (Option.bind (bif decide (r140.1 < 0) then (some true) else (Option.bind (F_laws_eqInt64S n r72.1 r35.1) fun r160 => (some (!r160)))) fun c160 => (bif (c160 || ((r72.2 != r35.2))) then (some false) else (Option.bind (F_laws_markInt64S n r72.1 1) fun r180 => (Option.bind (F_laws_heldInt64S n r180.2 1) fun r194 => (bif decide (r194 < 0) then (some false) else (bif (r194 != r180.1) then (some false) else (Option.bind (F_laws_toLatchSystem n a0_aS) fun r204 => (Option.bind (F_impl_LatchDepartures n r204) fun r219 => (Option.bind (F_laws_eqInt64S n r219.1 r35.1) fun r229 => (bif ((!r229) || ((r219.2 != r35.2))) then (some false) else (Option.bind (F_laws_heldInt64S n r180.2 1) fun r242 => (bif decide (r242 < 0) then (some false) else (bif (r242 != r180.1) then (some false) else (some true))))))))))))))))))))))))))
set_option maxHeartbeats 4000000 in
theorem W_laws_FnExactLatchDepartures {n : Nat} {a0_aS : S_LatchSystem} {r : Bool} {w : World} {v1 : Value} {v3 : Value} (hF : F_laws_FnExactLatchDepartures n a0_aS = some r) (ha2 : slRep C_Latch w (Iv 0 w.heap.size) a0_aS.Latches v1) (ha4 : slRep C_LatchLink w (Iv 0 w.heap.size) a0_aS.Links v3) :
    Calls Try.prog 11 [.agg #[v1, v3]].toArray w (Ret fun u w2 => u = .bool r ∧ Ext w w2) := by
  refine calls_of Try.func11 rfl Try.ntmps11 ?_
  have he0 : Ext w w := Ext.refl w
  unfold F_laws_FnExactLatchDepartures at hF
  refine WC.seq ?_
  refine WC.region ?_
  refine TL.eff rfl rfl (eff_box rfl rfl) ?_
  rintro _ w6 ⟨b5, rfl, hn7⟩
  obtain ⟨hn7e, hn7s, hn7x, hb8⟩ := hn7
  have hb8 : Box w6 b5 [v1, v3] 32 := hb8
  have he10 : Ext w w6 := Ext.trans he0 hn7x
  have hz11 := (hn7x).size
  have hlo9 : w.heap.size ≤ b5 := by rw [hn7e]; exact (he0).size
  refine TL.yld rfl rfl (yld_assign rfl rfl) ?_
  refine TL.done ?_
  refine NX.seq ?_
  refine WC.seq ?_
  refine WC.region ?_
  refine TL.yld rfl rfl (yld_assign rfl rfl) ?_
  refine TL.done ?_
  refine NX.seq ?_
  refine WC.seq ?_
  refine WC.region ?_
  refine TL.yld rfl rfl (yld_loadN (us := [v1, v3]) rfl ag_32 rfl (Box.cells hb8) cn_32) ?_
  refine TL.yld rfl rfl (yld_move rfl rfl) ?_
  obtain ⟨r12, hr13, hF⟩ := bsome hF
  refine TL.eff rfl rfl (eff_call rfl gf_18 rfl (W_laws_szLatchSystem hr13 ((slRep.old ha2 he10 (Nat.le_refl _)).wide (Nat.le_refl _) (he10).size) ((slRep.old ha4 he10 (Nat.le_refl _)).wide (Nat.le_refl _) (he10).size))) ?_
  rintro _ w14 ⟨rfl, hx15⟩
  have he16 : Ext w w14 := Ext.trans he10 hx15
  have hb8 := Box.ext hb8 hx15
  have hz17 := (hx15).size
  refine TL.yld rfl rfl (yld_assign rfl rfl) ?_
  refine TL.done ?_
  refine NX.seq ?_
  refine WC.seq ?_
  refine WC.seq ?_
  refine WC.region ?_
  refine TL.yld rfl rfl (yld_move rfl rfl) ?_
  refine TL.yld rfl rfl (yld_lss rfl rfl rfl) ?_
  refine TL.done ?_
  refine NX.seq ?_
  refine WC.cond rfl ?_ ?_
  · intro hc18
    replace hF := bif_t hc18 hF
    refine WC.seq ?_
    refine WC.region ?_
    refine TL.yld rfl rfl (yld_assign rfl rfl) ?_
    refine TL.done ?_
    refine NX.seq ?_
    refine WC.ret' ?_
    refine NX.then_r ?_
    obtain rfl := Option.some.inj hF
    exact NX.end (rs := [.tmp 2]) (vs := [.bool true]) rfl ⟨rfl, trivial⟩ ⟨_, rfl, rfl, he16⟩
  · intro hc19
    replace hF := bif_f hc19 hF
    refine WC.skip' ?_
    refine NX.seq ?_
    refine WC.seq ?_
    refine WC.region ?_
    refine TL.yld rfl rfl (yld_loadN (us := [v1, v3]) rfl ag_32 rfl (Box.cells hb8) cn_32) ?_
    obtain ⟨r20, hr21, hF⟩ := bsome hF
    refine TL.eff rfl rfl (eff_call rfl gf_20 rfl (W_laws_toLatchSystem hr21 ((slRep.old ha2 he16 (Nat.le_refl _)).wide (Nat.le_refl _) (he16).size) ((slRep.old ha4 he16 (Nat.le_refl _)).wide (Nat.le_refl _) (he16).size))) ?_
    rintro _ w22 ⟨v24, v26, rfl, hs25, hs27, hp32, hx23⟩
    have he33 : Ext w w22 := Ext.trans he16 hx23
    have hb8 := Box.ext hb8 hx23
    have hz34 := (hx23).size
    have hbd29 := ownR.blk hs25
    have hbd31 := ownR.blk hs27
    obtain ⟨r35, hr36, hF⟩ := bsome hF
    refine TL.eff rfl rfl (eff_call rfl gf_39 rfl (W_spec_LatchDepartures hr36 (ownR.slf hs25 (Nat.zero_le _) (Nat.le_refl _)) (ownR.slf hs27 (Nat.zero_le _) (Nat.le_refl _)))) ?_
    rintro _ w37 ⟨v39, rfl, hs40, hx38⟩
    have he43 : Ext w w37 := Ext.trans he33 hx38
    have hb8 := Box.ext hb8 hx38
    have hs25 := ownR.ext hs25 hx38
    have hs27 := ownR.ext hs27 hx38
    have hz44 := (hx38).size
    have hbd42 := ownR.blk hs40
    refine TL.yld rfl rfl (yld_move rfl rfl) ?_
    refine TL.yld rfl rfl (yld_extract rfl rfl rfl) ?_
    refine TL.yld rfl rfl (yld_extract rfl rfl rfl) ?_
    refine TL.yld rfl rfl (yld_assign rfl rfl) ?_
    refine TL.yld rfl rfl (yld_assign rfl rfl) ?_
    refine TL.done ?_
    refine NX.seq ?_
    refine WC.seq ?_
    refine WC.region ?_
    refine TL.yld rfl rfl (yld_loadN (us := [v1, v3]) rfl ag_32 rfl (Box.cells hb8) cn_32) ?_
    obtain ⟨r45, hr46, hF⟩ := bsome hF
    refine TL.eff rfl rfl (eff_call rfl gf_20 rfl (W_laws_toLatchSystem hr46 ((slRep.old ha2 he43 (Nat.le_refl _)).wide (Nat.le_refl _) (he43).size) ((slRep.old ha4 he43 (Nat.le_refl _)).wide (Nat.le_refl _) (he43).size))) ?_
    rintro _ w47 ⟨v49, v51, rfl, hs50, hs52, hp57, hx48⟩
    have he58 : Ext w w47 := Ext.trans he43 hx48
    have hb8 := Box.ext hb8 hx48
    have hs25 := ownR.ext hs25 hx48
    have hs27 := ownR.ext hs27 hx48
    have hs40 := ownR.ext hs40 hx48
    have hz59 := (hx48).size
    have hbd54 := ownR.blk hs50
    have hbd56 := ownR.blk hs52
    refine TL.eff rfl rfl (eff_alloc rfl zn_38) ?_
    rintro _ w61 ⟨b60, rfl, hn62⟩
    obtain ⟨hn62e, hn62s, hn62x, hb63⟩ := hn62
    have hb63 : Box w61 b60 [.slice none 0 0, .slice none 0 0] 38 := hb63
    have he65 : Ext w w61 := Ext.trans he58 hn62x
    have hb8 := Box.ext hb8 hn62x
    have hs25 := ownR.ext hs25 hn62x
    have hs27 := ownR.ext hs27 hn62x
    have hs40 := ownR.ext hs40 hn62x
    have hs50 := ownR.ext hs50 hn62x
    have hs52 := ownR.ext hs52 hn62x
    have hz66 := (hn62x).size
    have hlo64 : w.heap.size ≤ b60 := by rw [hn62e]; exact (he58).size
    refine TL.eff rfl rfl (eff_store rfl rfl rfl hb63 cn_38 (allc_cons (slRep.one (ownR.slf hs50 (Nat.le_refl _) (Nat.le_refl _))) (allc_cons (slRep.one (ownR.slf hs52 (Nat.le_refl _) (Nat.le_refl _))) allc_nil)) rfl) ?_
    rintro _ w67 ⟨hu68, hb69⟩
    have he70 : Ext w w67 := Below.trans he65 (Upd.below hu68 (by omega))
    have hb8 := Box.upd hb8 hu68 (by omega)
    have hs25 := ownR.upd hs25 hu68 (fun g hg => by have := hbd29 g hg; omega)
    have hs27 := ownR.upd hs27 hu68 (fun g hg => by have := hbd31 g hg; omega)
    have hs40 := ownR.upd hs40 hu68 (fun g hg => by have := hbd42 g hg; omega)
    have hs50 := ownR.upd hs50 hu68 (fun g hg => by have := hbd54 g hg; omega)
    have hs52 := ownR.upd hs52 hu68 (fun g hg => by have := hbd56 g hg; omega)
    have hz71 := (hu68).size
    have hb63 : Box w67 b60 [v49, v51] 38 := hb69
    refine TL.done ?_
    refine NX.seq ?_
    refine WC.seq ?_
    refine WC.region ?_
    refine TL.yld rfl rfl (yld_loadN (us := [v49, v51]) rfl ag_38 rfl (Box.cells hb63) cn_38) ?_
    obtain ⟨r72, hr73, hF⟩ := bsome hF
    refine TL.eff rfl rfl (eff_call rfl gf_30 rfl (W_impl_LatchDepartures hr73 (ownR.slf hs50 (Nat.zero_le _) (Nat.le_refl _)) (ownR.slf hs52 (Nat.zero_le _) (Nat.le_refl _)))) ?_
    rintro _ w74 ⟨v76, rfl, hs77, hx75⟩
    have he80 : Ext w w74 := Ext.trans he70 hx75
    have hb8 := Box.ext hb8 hx75
    have hb63 := Box.ext hb63 hx75
    have hs25 := ownR.ext hs25 hx75
    have hs27 := ownR.ext hs27 hx75
    have hs40 := ownR.ext hs40 hx75
    have hs50 := ownR.ext hs50 hx75
    have hs52 := ownR.ext hs52 hx75
    have hz81 := (hx75).size
    have hbd79 := ownR.blk hs77
    refine TL.yld rfl rfl (yld_move rfl rfl) ?_
    refine TL.yld rfl rfl (yld_extract rfl rfl rfl) ?_
    refine TL.yld rfl rfl (yld_extract rfl rfl rfl) ?_
    refine TL.yld rfl rfl (yld_assign rfl rfl) ?_
    refine TL.yld rfl rfl (yld_assign rfl rfl) ?_
    refine TL.done ?_
    refine NX.seq ?_
    refine WC.seq ?_
    refine WC.seq ?_
    refine WC.region ?_
    refine TL.yld rfl rfl (yld_move rfl rfl) ?_
    refine TL.yld rfl rfl (yld_move rfl rfl) ?_
    obtain ⟨r82, hr83, hF⟩ := bsome hF
    refine TL.eff rfl rfl (eff_call rfl gf_36 rfl (W_laws_eqInt64S hr83 (ownR.slf hs77 (Nat.zero_le _) (Nat.le_refl _)) (ownR.slf hs40 (Nat.zero_le _) (Nat.le_refl _)))) ?_
    rintro _ w84 ⟨rfl, hx85⟩
    have he86 : Ext w w84 := Ext.trans he80 hx85
    have hb8 := Box.ext hb8 hx85
    have hb63 := Box.ext hb63 hx85
    have hs25 := ownR.ext hs25 hx85
    have hs27 := ownR.ext hs27 hx85
    have hs40 := ownR.ext hs40 hx85
    have hs50 := ownR.ext hs50 hx85
    have hs52 := ownR.ext hs52 hx85
    have hs77 := ownR.ext hs77 hx85
    have hz87 := (hx85).size
    refine TL.yld rfl rfl (yld_not rfl rfl) ?_
    refine TL.yld rfl rfl (yld_move rfl rfl) ?_
    refine TL.cut 4 [(1, .pointer (some ⟨b5, 0, none⟩)), (4, v39), (5, .int .i64 r35.2), (6, .pointer (some ⟨b60, 0, none⟩)), (7, v76), (8, .int .i64 r72.2), (40, .bool (((!r82) || ((r72.2 != r35.2)))))] (fun w' => Ext w84 w') ?_ ?_
    · rcases Bool.eq_false_or_eq_true (!r82) with hg88 | hg88
      ·
        refine TL.gnu (j := 4) (t := 36) rfl rfl rfl hg88 rfl ?_
        refine TL.gnu (j := 4) (t := 36) rfl rfl rfl hg88 rfl ?_
        refine TL.gnu (j := 4) (t := 36) rfl rfl rfl hg88 rfl ?_
        refine TL.yld rfl rfl (yld_or_t (b2 := (r72.2 != r35.2)) rfl rfl hg88 rfl) ?_
        exact TL.nil fun a h => ⟨h.weaken ⟨rfl, rfl, rfl, rfl, rfl, rfl, rfl, trivial⟩, Ext.refl _⟩
      ·
        refine TL.gy (j := 4) (t := 36) rfl rfl rfl hg88 rfl (yld_move rfl rfl) ?_
        refine TL.gy (j := 4) (t := 36) rfl rfl rfl hg88 rfl (yld_move rfl rfl) ?_
        refine TL.gy (j := 4) (t := 36) rfl rfl rfl hg88 rfl (yld_neq rfl rfl rfl) ?_
        refine TL.yld rfl rfl (yld_or_f rfl rfl hg88 rfl) ?_
        exact TL.nil fun a h => ⟨h.weaken ⟨rfl, rfl, rfl, rfl, rfl, rfl, rfl, trivial⟩, Ext.refl _⟩
    intro w89 hx90
    have he91 : Ext w w89 := Ext.trans he86 hx90
    have hb8 := Box.ext hb8 hx90
    have hb63 := Box.ext hb63 hx90
    have hs25 := ownR.ext hs25 hx90
    have hs27 := ownR.ext hs27 hx90
    have hs40 := ownR.ext hs40 hx90
    have hs50 := ownR.ext hs50 hx90
    have hs52 := ownR.ext hs52 hx90
    have hs77 := ownR.ext hs77 hx90
    have hz92 := (hx90).size
    refine TL.done ?_
    refine NX.seq ?_
    refine WC.cond rfl ?_ ?_
    · intro hc93
      replace hF := bif_t hc93 hF
      refine WC.seq ?_
      refine WC.region ?_
      refine TL.yld rfl rfl (yld_assign rfl rfl) ?_
      refine TL.done ?_
      refine NX.seq ?_
      refine WC.ret' ?_
      refine NX.then_r ?_
      obtain rfl := Option.some.inj hF
      exact NX.end (rs := [.tmp 2]) (vs := [.bool false]) rfl ⟨rfl, trivial⟩ ⟨_, rfl, rfl, he91⟩
    · intro hc94
      replace hF := bif_f hc94 hF
      refine WC.skip' ?_
      refine NX.seq ?_
      refine WC.seq ?_
      refine WC.seq ?_
      obtain ⟨r95, hr96, hF⟩ := bsome hF
      obtain ⟨r110, hr111, hF⟩ := bsome hF
      refine WC.held 3 Try.hm fun w116 hx117 => ?_
      have he118 : Ext w w116 := Ext.trans he91 hx117
      have hb8 := Box.ext hb8 hx117
      have hb63 := Box.ext hb63 hx117
      have hs25 := ownR.ext hs25 hx117
      have hs27 := ownR.ext hs27 hx117
      have hs40 := ownR.ext hs40 hx117
      have hs50 := ownR.ext hs50 hx117
      have hs52 := ownR.ext hs52 hx117
      have hs77 := ownR.ext hs77 hx117
      have hz119 := (hx117).size
      refine HL.yld 0 (by kernel_rfl) rfl (by kernel_rfl) rfl rfl (yld_loadN (us := [v49, v51]) rfl ag_38 rfl (Box.cells hb63) cn_38) ?_
      refine HL.yld 1 (by kernel_rfl) rfl (by kernel_rfl) rfl rfl (yld_loadN (us := [v1, v3]) rfl ag_32 rfl (Box.cells hb8) cn_32) ?_
      refine HL.eff 2 rfl rfl (by kernel_rfl) rfl rfl (eff_call rfl gf_20 rfl (W_laws_toLatchSystem hr96 ((slRep.old ha2 he118 (Nat.le_refl _)).wide (Nat.le_refl _) (he118).size) ((slRep.old ha4 he118 (Nat.le_refl _)).wide (Nat.le_refl _) (he118).size))) ?_
      rintro _ w120 ⟨v122, v124, rfl, hs123, hs125, hp130, hx121⟩
      have hbs131 : Ext w116 w120 := Ext.trans (Ext.refl w116) hx121
      have he132 : Ext w w120 := Ext.trans he118 hx121
      have hb8 := Box.ext hb8 hx121
      have hb63 := Box.ext hb63 hx121
      have hs25 := ownR.ext hs25 hx121
      have hs27 := ownR.ext hs27 hx121
      have hs40 := ownR.ext hs40 hx121
      have hs50 := ownR.ext hs50 hx121
      have hs52 := ownR.ext hs52 hx121
      have hs77 := ownR.ext hs77 hx121
      have hz133 := (hx121).size
      have hbd127 := ownR.blk hs123
      have hbd129 := ownR.blk hs125
      refine ⟨hbs131, ?_⟩
      refine HL.tail rfl (by kernel_rfl) rfl ?_
      refine TL.eff rfl rfl (eff_call rfl gf_22 rfl (W_laws_eqLatchSystem hr111 (ownR.slf hs50 (Nat.zero_le _) (Nat.le_refl _)) (ownR.slf hs52 (Nat.zero_le _) (Nat.le_refl _)) (ownR.slf hs123 (Nat.zero_le _) (Nat.le_refl _)) (ownR.slf hs125 (Nat.zero_le _) (Nat.le_refl _)))) ?_
      rintro _ w134 ⟨rfl, hx135⟩
      have he136 : Ext w w134 := Ext.trans he132 hx135
      have hb8 := Box.ext hb8 hx135
      have hb63 := Box.ext hb63 hx135
      have hs25 := ownR.ext hs25 hx135
      have hs27 := ownR.ext hs27 hx135
      have hs40 := ownR.ext hs40 hx135
      have hs50 := ownR.ext hs50 hx135
      have hs52 := ownR.ext hs52 hx135
      have hs77 := ownR.ext hs77 hx135
      have hs123 := ownR.ext hs123 hx135
      have hs125 := ownR.ext hs125 hx135
      have hz137 := (hx135).size
      refine TL.yld rfl rfl (yld_not rfl rfl) ?_
      refine TL.noPan (l := []) ?_
      refine NX.seq ?_
      refine WC.cond rfl ?_ ?_
      · intro hc138
        replace hF := bif_t hc138 hF
        refine WC.seq ?_
        refine WC.region ?_
        refine TL.yld rfl rfl (yld_assign rfl rfl) ?_
        refine TL.done ?_
        refine NX.seq ?_
        refine WC.ret' ?_
        refine NX.then_r ?_
        obtain rfl := Option.some.inj hF
        exact NX.end (rs := [.tmp 2]) (vs := [.bool false]) rfl ⟨rfl, trivial⟩ ⟨_, rfl, rfl, he136⟩
      · intro hc139
        replace hF := bif_f hc139 hF
        refine WC.skip' ?_
        refine NX.seq ?_
        refine WC.seq ?_
        refine WC.region ?_
        refine TL.yld rfl rfl (yld_assign rfl rfl) ?_
        refine TL.done ?_
        refine NX.seq ?_
        refine WC.seq ?_
        refine WC.region ?_
        refine TL.yld rfl rfl (yld_loadN (us := [v49, v51]) rfl ag_38 rfl (Box.cells hb63) cn_38) ?_
        refine TL.yld rfl rfl (yld_move rfl rfl) ?_
        obtain ⟨r140, hr141, hF⟩ := bsome hF
        refine TL.eff rfl rfl (eff_call rfl gf_43 rfl (W_laws_markLatchSystem hr141 hs50 hs52 hp57)) ?_
        rintro _ w142 ⟨rfl, hs144, hs145, hx143⟩
        have he146 : Ext w w142 := Below.trans he136 (But.below hx143 (all_por (all_pO (fun g hg => by have := hbd54 g hg; omega)) (all_pO (fun g hg => by have := hbd56 g hg; omega))) (he136).size)
        have hb8 := Box.but hb8 hx143 (all_por (all_pO (fun g hg => by have := hbd54 g hg; omega)) (all_pO (fun g hg => by have := hbd56 g hg; omega)))
        have hb63 := Box.but hb63 hx143 (all_por (all_pO (fun g hg => by have := hbd54 g hg; omega)) (all_pO (fun g hg => by have := hbd56 g hg; omega)))
        have hp147 : ∀ g q, v49.ownBlock = some g → v24.ownBlock = some q → g ≠ q := (fun g q hg hq => by have := hbd54 g hg; have := hbd29 q hq; omega)
        have hp148 : ∀ g q, v51.ownBlock = some g → v24.ownBlock = some q → g ≠ q := (fun g q hg hq => by have := hbd56 g hg; have := hbd29 q hq; omega)
        have hs25 := ownR.butF hs25 hx143 (all_por (all_pO (fun g hg q hq => hp147 g q hg hq)) (all_pO (fun g hg q hq => hp148 g q hg hq)))
        have hp149 : ∀ g q, v49.ownBlock = some g → v26.ownBlock = some q → g ≠ q := (fun g q hg hq => by have := hbd54 g hg; have := hbd31 q hq; omega)
        have hp150 : ∀ g q, v51.ownBlock = some g → v26.ownBlock = some q → g ≠ q := (fun g q hg hq => by have := hbd56 g hg; have := hbd31 q hq; omega)
        have hs27 := ownR.butF hs27 hx143 (all_por (all_pO (fun g hg q hq => hp149 g q hg hq)) (all_pO (fun g hg q hq => hp150 g q hg hq)))
        have hp151 : ∀ g q, v49.ownBlock = some g → v39.ownBlock = some q → g ≠ q := (fun g q hg hq => by have := hbd54 g hg; have := hbd42 q hq; omega)
        have hp152 : ∀ g q, v51.ownBlock = some g → v39.ownBlock = some q → g ≠ q := (fun g q hg hq => by have := hbd56 g hg; have := hbd42 q hq; omega)
        have hs40 := ownR.butF hs40 hx143 (all_por (all_pO (fun g hg q hq => hp151 g q hg hq)) (all_pO (fun g hg q hq => hp152 g q hg hq)))
        have hp153 : ∀ g q, v49.ownBlock = some g → v76.ownBlock = some q → g ≠ q := (fun g q hg hq => by have := hbd54 g hg; have := hbd79 q hq; omega)
        have hp154 : ∀ g q, v51.ownBlock = some g → v76.ownBlock = some q → g ≠ q := (fun g q hg hq => by have := hbd56 g hg; have := hbd79 q hq; omega)
        have hs77 := ownR.butF hs77 hx143 (all_por (all_pO (fun g hg q hq => hp153 g q hg hq)) (all_pO (fun g hg q hq => hp154 g q hg hq)))
        have hp155 : ∀ g q, v49.ownBlock = some g → v122.ownBlock = some q → g ≠ q := (fun g q hg hq => by have := hbd54 g hg; have := hbd127 q hq; omega)
        have hp156 : ∀ g q, v51.ownBlock = some g → v122.ownBlock = some q → g ≠ q := (fun g q hg hq => by have := hbd56 g hg; have := hbd127 q hq; omega)
        have hs123 := ownR.butF hs123 hx143 (all_por (all_pO (fun g hg q hq => hp155 g q hg hq)) (all_pO (fun g hg q hq => hp156 g q hg hq)))
        have hp157 : ∀ g q, v49.ownBlock = some g → v124.ownBlock = some q → g ≠ q := (fun g q hg hq => by have := hbd54 g hg; have := hbd129 q hq; omega)
        have hp158 : ∀ g q, v51.ownBlock = some g → v124.ownBlock = some q → g ≠ q := (fun g q hg hq => by have := hbd56 g hg; have := hbd129 q hq; omega)
        have hs125 := ownR.butF hs125 hx143 (all_por (all_pO (fun g hg q hq => hp157 g q hg hq)) (all_pO (fun g hg q hq => hp158 g q hg hq)))
        have hz159 := (hx143).size
        refine TL.yld rfl rfl (yld_assign rfl rfl) ?_
        refine TL.done ?_
        refine NX.seq ?_
        refine WC.seq ?_
        refine WC.seq ?_
        refine WC.region ?_
        refine TL.yld rfl rfl (yld_move rfl rfl) ?_
        refine TL.yld rfl rfl (yld_lss rfl rfl rfl) ?_
        refine TL.yld rfl rfl (yld_move rfl rfl) ?_
        obtain ⟨c160, hb161, hF⟩ := bsome hF
        refine TL.cut 5 [(1, .pointer (some ⟨b5, 0, none⟩)), (4, v39), (5, .int .i64 r35.2), (7, v76), (8, .int .i64 r72.2), (56, .bool c160)] (fun w' => Ext w142 w') ?_ ?_
        · rcases Bool.eq_false_or_eq_true (decide (r140.1 < 0)) with hg162 | hg162
          ·
            rw [hg162] at hb161; simp only [cond_true, cond_false] at hb161
            refine TL.gnu (j := 2) (t := 51) rfl rfl rfl hg162 rfl ?_
            refine TL.gnu (j := 2) (t := 51) rfl rfl rfl hg162 rfl ?_
            refine TL.gnu (j := 2) (t := 51) rfl rfl rfl hg162 rfl ?_
            refine TL.gnu (j := 2) (t := 51) rfl rfl rfl hg162 rfl ?_
            obtain rfl := Option.some.inj hb161
            refine TL.yld rfl rfl (yld_pick_t rfl rfl hg162 rfl) ?_
            exact TL.nil fun a h => ⟨h.weaken ⟨rfl, rfl, rfl, rfl, rfl, rfl, trivial⟩, Ext.refl _⟩
          ·
            rw [hg162] at hb161; simp only [cond_true, cond_false] at hb161
            replace hF := hb161
            refine TL.gy (j := 2) (t := 51) rfl rfl rfl hg162 rfl (yld_move rfl rfl) ?_
            refine TL.gy (j := 2) (t := 51) rfl rfl rfl hg162 rfl (yld_move rfl rfl) ?_
            obtain ⟨r163, hr164, hF⟩ := bsome hF
            refine TL.ge (j := 2) (t := 51) rfl rfl rfl hg162 rfl (eff_call rfl gf_36 rfl (W_laws_eqInt64S hr164 (ownR.slf hs77 (Nat.zero_le _) (Nat.le_refl _)) (ownR.slf hs40 (Nat.zero_le _) (Nat.le_refl _)))) ?_
            rintro _ w165 ⟨rfl, hx166⟩
            have he167 : Ext w w165 := Ext.trans he146 hx166
            have hb8 := Box.ext hb8 hx166
            have hb63 := Box.ext hb63 hx166
            have hs25 := ownR.ext hs25 hx166
            have hs27 := ownR.ext hs27 hx166
            have hs40 := ownR.ext hs40 hx166
            have hs144 := ownR.ext hs144 hx166
            have hs145 := ownR.ext hs145 hx166
            have hs77 := ownR.ext hs77 hx166
            have hs123 := ownR.ext hs123 hx166
            have hs125 := ownR.ext hs125 hx166
            have hz168 := (hx166).size
            refine TL.gy (j := 2) (t := 51) rfl rfl rfl hg162 rfl (yld_not rfl rfl) ?_
            obtain rfl := Option.some.inj hF
            refine TL.yld rfl rfl (yld_pick_f rfl rfl hg162 rfl) ?_
            exact TL.nil fun a h => ⟨h.weaken ⟨rfl, rfl, rfl, rfl, rfl, rfl, trivial⟩, hx166⟩
        intro w169 hx170
        have he171 : Ext w w169 := Ext.trans he146 hx170
        have hb8 := Box.ext hb8 hx170
        have hb63 := Box.ext hb63 hx170
        have hs25 := ownR.ext hs25 hx170
        have hs27 := ownR.ext hs27 hx170
        have hs40 := ownR.ext hs40 hx170
        have hs144 := ownR.ext hs144 hx170
        have hs145 := ownR.ext hs145 hx170
        have hs77 := ownR.ext hs77 hx170
        have hs123 := ownR.ext hs123 hx170
        have hs125 := ownR.ext hs125 hx170
        have hz172 := (hx170).size
        refine TL.yld rfl rfl (yld_move rfl rfl) ?_
        refine TL.cut 4 [(1, .pointer (some ⟨b5, 0, none⟩)), (4, v39), (5, .int .i64 r35.2), (7, v76), (61, .bool ((c160 || ((r72.2 != r35.2)))))] (fun w' => Ext w169 w') ?_ ?_
        · rcases Bool.eq_false_or_eq_true c160 with hg173 | hg173
          ·
            refine TL.gnu (j := 8) (t := 57) rfl rfl rfl hg173 rfl ?_
            refine TL.gnu (j := 8) (t := 57) rfl rfl rfl hg173 rfl ?_
            refine TL.gnu (j := 8) (t := 57) rfl rfl rfl hg173 rfl ?_
            refine TL.yld rfl rfl (yld_or_t (b2 := (r72.2 != r35.2)) rfl rfl hg173 rfl) ?_
            exact TL.nil fun a h => ⟨h.weaken ⟨rfl, rfl, rfl, rfl, rfl, trivial⟩, Ext.refl _⟩
          ·
            refine TL.gy (j := 8) (t := 57) rfl rfl rfl hg173 rfl (yld_move rfl rfl) ?_
            refine TL.gy (j := 8) (t := 57) rfl rfl rfl hg173 rfl (yld_move rfl rfl) ?_
            refine TL.gy (j := 8) (t := 57) rfl rfl rfl hg173 rfl (yld_neq rfl rfl rfl) ?_
            refine TL.yld rfl rfl (yld_or_f rfl rfl hg173 rfl) ?_
            exact TL.nil fun a h => ⟨h.weaken ⟨rfl, rfl, rfl, rfl, rfl, trivial⟩, Ext.refl _⟩
        intro w174 hx175
        have he176 : Ext w w174 := Ext.trans he171 hx175
        have hb8 := Box.ext hb8 hx175
        have hb63 := Box.ext hb63 hx175
        have hs25 := ownR.ext hs25 hx175
        have hs27 := ownR.ext hs27 hx175
        have hs40 := ownR.ext hs40 hx175
        have hs144 := ownR.ext hs144 hx175
        have hs145 := ownR.ext hs145 hx175
        have hs77 := ownR.ext hs77 hx175
        have hs123 := ownR.ext hs123 hx175
        have hs125 := ownR.ext hs125 hx175
        have hz177 := (hx175).size
        refine TL.done ?_
        refine NX.seq ?_
        refine WC.cond rfl ?_ ?_
        · intro hc178
          replace hF := bif_t hc178 hF
          refine WC.seq ?_
          refine WC.region ?_
          refine TL.yld rfl rfl (yld_assign rfl rfl) ?_
          refine TL.done ?_
          refine NX.seq ?_
          refine WC.ret' ?_
          refine NX.then_r ?_
          obtain rfl := Option.some.inj hF
          exact NX.end (rs := [.tmp 2]) (vs := [.bool false]) rfl ⟨rfl, trivial⟩ ⟨_, rfl, rfl, he176⟩
        · intro hc179
          replace hF := bif_f hc179 hF
          refine WC.skip' ?_
          refine NX.seq ?_
          refine WC.seq ?_
          refine WC.region ?_
          refine TL.yld rfl rfl (yld_assign rfl rfl) ?_
          refine TL.done ?_
          refine NX.seq ?_
          refine WC.seq ?_
          refine WC.region ?_
          refine TL.yld rfl rfl (yld_move rfl rfl) ?_
          refine TL.yld rfl rfl (yld_move rfl rfl) ?_
          obtain ⟨r180, hr181, hF⟩ := bsome hF
          refine TL.eff rfl rfl (eff_call rfl gf_48 rfl (W_laws_markInt64S hr181 hs77)) ?_
          rintro _ w182 ⟨rfl, hs184, hx183⟩
          have he185 : Ext w w182 := Below.trans he176 (But.below hx183 (all_pO (fun g hg => by have := hbd79 g hg; omega)) (he176).size)
          have hb8 := Box.but hb8 hx183 (all_pO (fun g hg => by have := hbd79 g hg; omega))
          have hb63 := Box.but hb63 hx183 (all_pO (fun g hg => by have := hbd79 g hg; omega))
          have hp186 : ∀ g q, v76.ownBlock = some g → v24.ownBlock = some q → g ≠ q := (fun g q hg hq => by have := hbd79 g hg; have := hbd29 q hq; omega)
          have hs25 := ownR.butF hs25 hx183 (all_pO (fun g hg q hq => hp186 g q hg hq))
          have hp187 : ∀ g q, v76.ownBlock = some g → v26.ownBlock = some q → g ≠ q := (fun g q hg hq => by have := hbd79 g hg; have := hbd31 q hq; omega)
          have hs27 := ownR.butF hs27 hx183 (all_pO (fun g hg q hq => hp187 g q hg hq))
          have hp188 : ∀ g q, v76.ownBlock = some g → v39.ownBlock = some q → g ≠ q := (fun g q hg hq => by have := hbd79 g hg; have := hbd42 q hq; omega)
          have hs40 := ownR.butF hs40 hx183 (all_pO (fun g hg q hq => hp188 g q hg hq))
          have hp189 : ∀ g q, v76.ownBlock = some g → v49.ownBlock = some q → g ≠ q := (fun g q hg hq => by have := hbd79 g hg; have := hbd54 q hq; omega)
          have hs144 := ownR.butF hs144 hx183 (all_pO (fun g hg q hq => hp189 g q hg hq))
          have hp190 : ∀ g q, v76.ownBlock = some g → v51.ownBlock = some q → g ≠ q := (fun g q hg hq => by have := hbd79 g hg; have := hbd56 q hq; omega)
          have hs145 := ownR.butF hs145 hx183 (all_pO (fun g hg q hq => hp190 g q hg hq))
          have hp191 : ∀ g q, v76.ownBlock = some g → v122.ownBlock = some q → g ≠ q := (fun g q hg hq => by have := hbd79 g hg; have := hbd127 q hq; omega)
          have hs123 := ownR.butF hs123 hx183 (all_pO (fun g hg q hq => hp191 g q hg hq))
          have hp192 : ∀ g q, v76.ownBlock = some g → v124.ownBlock = some q → g ≠ q := (fun g q hg hq => by have := hbd79 g hg; have := hbd129 q hq; omega)
          have hs125 := ownR.butF hs125 hx183 (all_pO (fun g hg q hq => hp192 g q hg hq))
          have hz193 := (hx183).size
          refine TL.yld rfl rfl (yld_assign rfl rfl) ?_
          refine TL.done ?_
          refine NX.seq ?_
          refine WC.seq ?_
          refine WC.region ?_
          refine TL.yld rfl rfl (yld_assign rfl rfl) ?_
          refine TL.done ?_
          refine NX.seq ?_
          refine WC.seq ?_
          refine WC.region ?_
          refine TL.yld rfl rfl (yld_move rfl rfl) ?_
          refine TL.yld rfl rfl (yld_move rfl rfl) ?_
          obtain ⟨r194, hr195, hF⟩ := bsome hF
          refine TL.eff rfl rfl (eff_call rfl gf_49 rfl (W_laws_heldInt64S hr195 (ownR.slf hs184 (Nat.zero_le _) (Nat.le_refl _)))) ?_
          rintro _ w196 ⟨rfl, hx197⟩
          have he198 : Ext w w196 := Ext.trans he185 hx197
          have hb8 := Box.ext hb8 hx197
          have hb63 := Box.ext hb63 hx197
          have hs25 := ownR.ext hs25 hx197
          have hs27 := ownR.ext hs27 hx197
          have hs40 := ownR.ext hs40 hx197
          have hs144 := ownR.ext hs144 hx197
          have hs145 := ownR.ext hs145 hx197
          have hs184 := ownR.ext hs184 hx197
          have hs123 := ownR.ext hs123 hx197
          have hs125 := ownR.ext hs125 hx197
          have hz199 := (hx197).size
          refine TL.yld rfl rfl (yld_assign rfl rfl) ?_
          refine TL.done ?_
          refine NX.seq ?_
          refine WC.seq ?_
          refine WC.seq ?_
          refine WC.region ?_
          refine TL.yld rfl rfl (yld_move rfl rfl) ?_
          refine TL.yld rfl rfl (yld_lss rfl rfl rfl) ?_
          refine TL.done ?_
          refine NX.seq ?_
          refine WC.cond rfl ?_ ?_
          · intro hc200
            replace hF := bif_t hc200 hF
            refine WC.seq ?_
            refine WC.region ?_
            refine TL.yld rfl rfl (yld_assign rfl rfl) ?_
            refine TL.done ?_
            refine NX.seq ?_
            refine WC.ret' ?_
            refine NX.then_r ?_
            obtain rfl := Option.some.inj hF
            exact NX.end (rs := [.tmp 2]) (vs := [.bool false]) rfl ⟨rfl, trivial⟩ ⟨_, rfl, rfl, he198⟩
          · intro hc201
            replace hF := bif_f hc201 hF
            refine WC.skip' ?_
            refine NX.seq ?_
            refine WC.seq ?_
            refine WC.seq ?_
            refine WC.region ?_
            refine TL.yld rfl rfl (yld_move rfl rfl) ?_
            refine TL.yld rfl rfl (yld_move rfl rfl) ?_
            refine TL.yld rfl rfl (yld_neq rfl rfl rfl) ?_
            refine TL.done ?_
            refine NX.seq ?_
            refine WC.cond rfl ?_ ?_
            · intro hc202
              replace hF := bif_t hc202 hF
              refine WC.seq ?_
              refine WC.region ?_
              refine TL.yld rfl rfl (yld_assign rfl rfl) ?_
              refine TL.done ?_
              refine NX.seq ?_
              refine WC.ret' ?_
              refine NX.then_r ?_
              obtain rfl := Option.some.inj hF
              exact NX.end (rs := [.tmp 2]) (vs := [.bool false]) rfl ⟨rfl, trivial⟩ ⟨_, rfl, rfl, he198⟩
            · intro hc203
              replace hF := bif_f hc203 hF
              refine WC.skip' ?_
              refine NX.seq ?_
              refine WC.seq ?_
              refine WC.region ?_
              refine TL.yld rfl rfl (yld_loadN (us := [v1, v3]) rfl ag_32 rfl (Box.cells hb8) cn_32) ?_
              obtain ⟨r204, hr205, hF⟩ := bsome hF
              refine TL.eff rfl rfl (eff_call rfl gf_20 rfl (W_laws_toLatchSystem hr205 ((slRep.old ha2 he198 (Nat.le_refl _)).wide (Nat.le_refl _) (he198).size) ((slRep.old ha4 he198 (Nat.le_refl _)).wide (Nat.le_refl _) (he198).size))) ?_
              rintro _ w206 ⟨v208, v210, rfl, hs209, hs211, hp216, hx207⟩
              have he217 : Ext w w206 := Ext.trans he198 hx207
              have hb8 := Box.ext hb8 hx207
              have hb63 := Box.ext hb63 hx207
              have hs25 := ownR.ext hs25 hx207
              have hs27 := ownR.ext hs27 hx207
              have hs40 := ownR.ext hs40 hx207
              have hs144 := ownR.ext hs144 hx207
              have hs145 := ownR.ext hs145 hx207
              have hs184 := ownR.ext hs184 hx207
              have hs123 := ownR.ext hs123 hx207
              have hs125 := ownR.ext hs125 hx207
              have hz218 := (hx207).size
              have hbd213 := ownR.blk hs209
              have hbd215 := ownR.blk hs211
              obtain ⟨r219, hr220, hF⟩ := bsome hF
              refine TL.eff rfl rfl (eff_call rfl gf_30 rfl (W_impl_LatchDepartures hr220 (ownR.slf hs209 (Nat.zero_le _) (Nat.le_refl _)) (ownR.slf hs211 (Nat.zero_le _) (Nat.le_refl _)))) ?_
              rintro _ w221 ⟨v223, rfl, hs224, hx222⟩
              have he227 : Ext w w221 := Ext.trans he217 hx222
              have hb8 := Box.ext hb8 hx222
              have hb63 := Box.ext hb63 hx222
              have hs25 := ownR.ext hs25 hx222
              have hs27 := ownR.ext hs27 hx222
              have hs40 := ownR.ext hs40 hx222
              have hs144 := ownR.ext hs144 hx222
              have hs145 := ownR.ext hs145 hx222
              have hs184 := ownR.ext hs184 hx222
              have hs123 := ownR.ext hs123 hx222
              have hs125 := ownR.ext hs125 hx222
              have hs209 := ownR.ext hs209 hx222
              have hs211 := ownR.ext hs211 hx222
              have hz228 := (hx222).size
              have hbd226 := ownR.blk hs224
              refine TL.yld rfl rfl (yld_move rfl rfl) ?_
              refine TL.yld rfl rfl (yld_extract rfl rfl rfl) ?_
              refine TL.yld rfl rfl (yld_extract rfl rfl rfl) ?_
              refine TL.yld rfl rfl (yld_assign rfl rfl) ?_
              refine TL.yld rfl rfl (yld_assign rfl rfl) ?_
              refine TL.done ?_
              refine NX.seq ?_
              refine WC.seq ?_
              refine WC.seq ?_
              refine WC.region ?_
              refine TL.yld rfl rfl (yld_move rfl rfl) ?_
              refine TL.yld rfl rfl (yld_move rfl rfl) ?_
              obtain ⟨r229, hr230, hF⟩ := bsome hF
              refine TL.eff rfl rfl (eff_call rfl gf_36 rfl (W_laws_eqInt64S hr230 (ownR.slf hs224 (Nat.zero_le _) (Nat.le_refl _)) (ownR.slf hs40 (Nat.zero_le _) (Nat.le_refl _)))) ?_
              rintro _ w231 ⟨rfl, hx232⟩
              have he233 : Ext w w231 := Ext.trans he227 hx232
              have hb8 := Box.ext hb8 hx232
              have hb63 := Box.ext hb63 hx232
              have hs25 := ownR.ext hs25 hx232
              have hs27 := ownR.ext hs27 hx232
              have hs40 := ownR.ext hs40 hx232
              have hs144 := ownR.ext hs144 hx232
              have hs145 := ownR.ext hs145 hx232
              have hs184 := ownR.ext hs184 hx232
              have hs123 := ownR.ext hs123 hx232
              have hs125 := ownR.ext hs125 hx232
              have hs209 := ownR.ext hs209 hx232
              have hs211 := ownR.ext hs211 hx232
              have hs224 := ownR.ext hs224 hx232
              have hz234 := (hx232).size
              refine TL.yld rfl rfl (yld_not rfl rfl) ?_
              refine TL.yld rfl rfl (yld_move rfl rfl) ?_
              refine TL.cut 4 [(7, v76), (10, .int .i64 r180.1), (87, .bool (((!r229) || ((r219.2 != r35.2)))))] (fun w' => Ext w231 w') ?_ ?_
              · rcases Bool.eq_false_or_eq_true (!r229) with hg235 | hg235
                ·
                  refine TL.gnu (j := 4) (t := 83) rfl rfl rfl hg235 rfl ?_
                  refine TL.gnu (j := 4) (t := 83) rfl rfl rfl hg235 rfl ?_
                  refine TL.gnu (j := 4) (t := 83) rfl rfl rfl hg235 rfl ?_
                  refine TL.yld rfl rfl (yld_or_t (b2 := (r219.2 != r35.2)) rfl rfl hg235 rfl) ?_
                  exact TL.nil fun a h => ⟨h.weaken ⟨rfl, rfl, rfl, trivial⟩, Ext.refl _⟩
                ·
                  refine TL.gy (j := 4) (t := 83) rfl rfl rfl hg235 rfl (yld_move rfl rfl) ?_
                  refine TL.gy (j := 4) (t := 83) rfl rfl rfl hg235 rfl (yld_move rfl rfl) ?_
                  refine TL.gy (j := 4) (t := 83) rfl rfl rfl hg235 rfl (yld_neq rfl rfl rfl) ?_
                  refine TL.yld rfl rfl (yld_or_f rfl rfl hg235 rfl) ?_
                  exact TL.nil fun a h => ⟨h.weaken ⟨rfl, rfl, rfl, trivial⟩, Ext.refl _⟩
              intro w236 hx237
              have he238 : Ext w w236 := Ext.trans he233 hx237
              have hb8 := Box.ext hb8 hx237
              have hb63 := Box.ext hb63 hx237
              have hs25 := ownR.ext hs25 hx237
              have hs27 := ownR.ext hs27 hx237
              have hs40 := ownR.ext hs40 hx237
              have hs144 := ownR.ext hs144 hx237
              have hs145 := ownR.ext hs145 hx237
              have hs184 := ownR.ext hs184 hx237
              have hs123 := ownR.ext hs123 hx237
              have hs125 := ownR.ext hs125 hx237
              have hs209 := ownR.ext hs209 hx237
              have hs211 := ownR.ext hs211 hx237
              have hs224 := ownR.ext hs224 hx237
              have hz239 := (hx237).size
              refine TL.done ?_
              refine NX.seq ?_
              refine WC.cond rfl ?_ ?_
              · intro hc240
                replace hF := bif_t hc240 hF
                refine WC.seq ?_
                refine WC.region ?_
                refine TL.yld rfl rfl (yld_assign rfl rfl) ?_
                refine TL.done ?_
                refine NX.seq ?_
                refine WC.ret' ?_
                refine NX.then_r ?_
                obtain rfl := Option.some.inj hF
                exact NX.end (rs := [.tmp 2]) (vs := [.bool false]) rfl ⟨rfl, trivial⟩ ⟨_, rfl, rfl, he238⟩
              · intro hc241
                replace hF := bif_f hc241 hF
                refine WC.skip' ?_
                refine NX.seq ?_
                refine WC.seq ?_
                refine WC.region ?_
                refine TL.yld rfl rfl (yld_assign rfl rfl) ?_
                refine TL.done ?_
                refine NX.seq ?_
                refine WC.seq ?_
                refine WC.region ?_
                refine TL.yld rfl rfl (yld_move rfl rfl) ?_
                refine TL.yld rfl rfl (yld_move rfl rfl) ?_
                obtain ⟨r242, hr243, hF⟩ := bsome hF
                refine TL.eff rfl rfl (eff_call rfl gf_49 rfl (W_laws_heldInt64S hr243 (ownR.slf hs184 (Nat.zero_le _) (Nat.le_refl _)))) ?_
                rintro _ w244 ⟨rfl, hx245⟩
                have he246 : Ext w w244 := Ext.trans he238 hx245
                have hb8 := Box.ext hb8 hx245
                have hb63 := Box.ext hb63 hx245
                have hs25 := ownR.ext hs25 hx245
                have hs27 := ownR.ext hs27 hx245
                have hs40 := ownR.ext hs40 hx245
                have hs144 := ownR.ext hs144 hx245
                have hs145 := ownR.ext hs145 hx245
                have hs184 := ownR.ext hs184 hx245
                have hs123 := ownR.ext hs123 hx245
                have hs125 := ownR.ext hs125 hx245
                have hs209 := ownR.ext hs209 hx245
                have hs211 := ownR.ext hs211 hx245
                have hs224 := ownR.ext hs224 hx245
                have hz247 := (hx245).size
                refine TL.yld rfl rfl (yld_assign rfl rfl) ?_
                refine TL.done ?_
                refine NX.seq ?_
                refine WC.seq ?_
                refine WC.seq ?_
                refine WC.region ?_
                refine TL.yld rfl rfl (yld_move rfl rfl) ?_
                refine TL.yld rfl rfl (yld_lss rfl rfl rfl) ?_
                refine TL.done ?_
                refine NX.seq ?_
                refine WC.cond rfl ?_ ?_
                · intro hc248
                  replace hF := bif_t hc248 hF
                  refine WC.seq ?_
                  refine WC.region ?_
                  refine TL.yld rfl rfl (yld_assign rfl rfl) ?_
                  refine TL.done ?_
                  refine NX.seq ?_
                  refine WC.ret' ?_
                  refine NX.then_r ?_
                  obtain rfl := Option.some.inj hF
                  exact NX.end (rs := [.tmp 2]) (vs := [.bool false]) rfl ⟨rfl, trivial⟩ ⟨_, rfl, rfl, he246⟩
                · intro hc249
                  replace hF := bif_f hc249 hF
                  refine WC.skip' ?_
                  refine NX.seq ?_
                  refine WC.seq ?_
                  refine WC.seq ?_
                  refine WC.region ?_
                  refine TL.yld rfl rfl (yld_move rfl rfl) ?_
                  refine TL.yld rfl rfl (yld_move rfl rfl) ?_
                  refine TL.yld rfl rfl (yld_neq rfl rfl rfl) ?_
                  refine TL.done ?_
                  refine NX.seq ?_
                  refine WC.cond rfl ?_ ?_
                  · intro hc250
                    replace hF := bif_t hc250 hF
                    refine WC.seq ?_
                    refine WC.region ?_
                    refine TL.yld rfl rfl (yld_assign rfl rfl) ?_
                    refine TL.done ?_
                    refine NX.seq ?_
                    refine WC.ret' ?_
                    refine NX.then_r ?_
                    obtain rfl := Option.some.inj hF
                    exact NX.end (rs := [.tmp 2]) (vs := [.bool false]) rfl ⟨rfl, trivial⟩ ⟨_, rfl, rfl, he246⟩
                  · intro hc251
                    replace hF := bif_f hc251 hF
                    refine WC.skip' ?_
                    refine NX.seq ?_
                    refine WC.seq ?_
                    refine WC.region ?_
                    refine TL.yld rfl rfl (yld_assign rfl rfl) ?_
                    refine TL.done ?_
                    refine NX.seq ?_
                    refine WC.ret' ?_
                    obtain rfl := Option.some.inj hF
                    exact NX.end (rs := [.tmp 2]) (vs := [.bool true]) rfl ⟨rfl, trivial⟩ ⟨_, rfl, rfl, he246⟩

theorem Z_LatchS {n : Nat} {a : List S_Latch} {left : Int} (hR : (fun xs => xs.length ≤ 9223372036854775807 ∧ ∀ x ∈ xs, R_Latch x) a) (h0 : 0 ≤ left) (h1 : left ≤ 1048576) (hn : 1048577 ≤ n) : ∃ r, F_laws_szLatchS n a left = some r ∧ r ≤ left ∧ (0 ≤ r → (fun xs => xs.length ≤ 1048576 ∧ ∀ x ∈ xs, SM_Latch x) a) := by
  have hl := hR.1
  rw [F_laws_szLatchS, wrap64 (by omega) (by omega)]
  by_cases h : left - (a.length : Int) < 0
  · rw [decide_eq_true h]; exact ⟨-1, rfl, by omega, fun h => by omega⟩
  · rw [decide_eq_false h]; exact ⟨_, rfl, by omega, fun _ => ⟨by omega, fun x _ => ⟨trivial, trivial⟩⟩⟩
theorem Z_LatchLinkS {n : Nat} {a : List S_LatchLink} {left : Int} (hR : (fun xs => xs.length ≤ 9223372036854775807 ∧ ∀ x ∈ xs, R_LatchLink x) a) (h0 : 0 ≤ left) (h1 : left ≤ 1048576) (hn : 1048577 ≤ n) : ∃ r, F_laws_szLatchLinkS n a left = some r ∧ r ≤ left ∧ (0 ≤ r → (fun xs => xs.length ≤ 1048576 ∧ ∀ x ∈ xs, SM_LatchLink x) a) := by
  have hl := hR.1
  rw [F_laws_szLatchLinkS, wrap64 (by omega) (by omega)]
  by_cases h : left - (a.length : Int) < 0
  · rw [decide_eq_true h]; exact ⟨-1, rfl, by omega, fun h => by omega⟩
  · rw [decide_eq_false h]; exact ⟨_, rfl, by omega, fun _ => ⟨by omega, fun x _ => ⟨trivial, trivial, trivial, trivial⟩⟩⟩
theorem Z_LatchSystem {n : Nat} {a : S_LatchSystem} {left : Int} (hR : R_LatchSystem a) (h0 : 0 ≤ left) (h1 : left ≤ 1048576) (hn : 1048577 ≤ n) : ∃ r, F_laws_szLatchSystem n a left = some r ∧ r ≤ left ∧ (0 ≤ r → SM_LatchSystem a) := by
  rw [F_laws_szLatchSystem]
  obtain ⟨r0, e0, l0, s0⟩ := Z_LatchS (n := n) hR.1 h0 h1 hn
  rw [e0, Option.bind_some]
  by_cases h_0 : r0 < 0
  · rw [decide_eq_true h_0]; exact ⟨-1, rfl, by omega, fun h => by omega⟩
  rw [decide_eq_false h_0, cond_false]
  obtain ⟨r1, e1, l1, s1⟩ := Z_LatchLinkS (n := n) hR.2 (show (0 : Int) ≤ r0 by omega) (by omega) hn
  rw [e1, Option.bind_some]
  by_cases h_1 : r1 < 0
  · rw [decide_eq_true h_1]; exact ⟨-1, rfl, by omega, fun h => by omega⟩
  rw [decide_eq_false h_1, cond_false]
  exact ⟨_, rfl, by omega, fun _ => ⟨s0 (by omega), s1 (by omega)⟩⟩
theorem T_Latch {n : Nat} {a : S_Latch} (h : SM_Latch a) (hn : 1048577 ≤ n) : F_laws_toLatch n a = some a := by
  rfl
theorem TL_LatchS {n : Nat} {a : List S_Latch} {k : Int → List S_Latch → Option (List S_Latch)} : ∀ (m : Nat) (i : Int) (l : List S_Latch), F_laws_toLatchS_L1 n a k m i l = cpL a (F_laws_toLatch n) k m i l
  | 0, _, _ => rfl
  | m + 1, i, l => by simp only [F_laws_toLatchS_L1_s, cpL_s, Option.bind_some, TL_LatchS (n := n) (a := a) (k := k) m]
theorem T_LatchS {n : Nat} {a : List S_Latch} (h : (fun xs => xs.length ≤ 1048576 ∧ ∀ x ∈ xs, SM_Latch x) a) (hn : 1048577 ≤ n) : F_laws_toLatchS n a = some a := by
  rw [F_laws_toLatchS, mkN_ok h.1 (by omega), Option.bind_some, TL_LatchS (n := n)]
  exact cpL_id (fun x hx => T_Latch (h.2 x hx) hn) h.1 hn
theorem T_LatchLink {n : Nat} {a : S_LatchLink} (h : SM_LatchLink a) (hn : 1048577 ≤ n) : F_laws_toLatchLink n a = some a := by
  rfl
theorem TL_LatchLinkS {n : Nat} {a : List S_LatchLink} {k : Int → List S_LatchLink → Option (List S_LatchLink)} : ∀ (m : Nat) (i : Int) (l : List S_LatchLink), F_laws_toLatchLinkS_L1 n a k m i l = cpL a (F_laws_toLatchLink n) k m i l
  | 0, _, _ => rfl
  | m + 1, i, l => by simp only [F_laws_toLatchLinkS_L1_s, cpL_s, Option.bind_some, TL_LatchLinkS (n := n) (a := a) (k := k) m]
theorem T_LatchLinkS {n : Nat} {a : List S_LatchLink} (h : (fun xs => xs.length ≤ 1048576 ∧ ∀ x ∈ xs, SM_LatchLink x) a) (hn : 1048577 ≤ n) : F_laws_toLatchLinkS n a = some a := by
  rw [F_laws_toLatchLinkS, mkN_ok h.1 (by omega), Option.bind_some, TL_LatchLinkS (n := n)]
  exact cpL_id (fun x hx => T_LatchLink (h.2 x hx) hn) h.1 hn
theorem T_LatchSystem {n : Nat} {a : S_LatchSystem} (h : SM_LatchSystem a) (hn : 1048577 ≤ n) : F_laws_toLatchSystem n a = some a := by
  rw [F_laws_toLatchSystem]; simp only [T_LatchS (h.1) hn, T_LatchLinkS (h.2) hn, Option.bind_some]
theorem E_Latch {n : Nat} {a : S_Latch} (h : SM_Latch a) (hn : 1048577 ≤ n) : F_laws_eqLatch n a a = some true := by
  simp [F_laws_eqLatch]
theorem EL_LatchS {n : Nat} {a b : List S_Latch} {k : Int → Option Bool} : ∀ (m : Nat) (i : Int), F_laws_eqLatchS_L1 n a b k m i = eqL a b (F_laws_eqLatch n) (some false) k m i
  | 0, _ => rfl
  | m + 1, i => by simp only [F_laws_eqLatchS_L1_s, eqL_s, Option.bind_some, bne, EL_LatchS (n := n) (a := a) (b := b) (k := k) m]
theorem E_LatchS {n : Nat} {a : List S_Latch} (h : (fun xs => xs.length ≤ 1048576 ∧ ∀ x ∈ xs, SM_Latch x) a) (hn : 1048577 ≤ n) : F_laws_eqLatchS n a a = some true := by
  rw [F_laws_eqLatchS, EL_LatchS (n := n)]
  have := eqL_same (f := F_laws_eqLatch n) (no := some false) (k := fun (i : Int) => some true) (fun x hx => E_Latch (h.2 x hx) hn) h.1 n 0 (by omega) (by omega)
  simpa using this
theorem E_LatchLink {n : Nat} {a : S_LatchLink} (h : SM_LatchLink a) (hn : 1048577 ≤ n) : F_laws_eqLatchLink n a a = some true := by
  simp [F_laws_eqLatchLink]
theorem EL_LatchLinkS {n : Nat} {a b : List S_LatchLink} {k : Int → Option Bool} : ∀ (m : Nat) (i : Int), F_laws_eqLatchLinkS_L1 n a b k m i = eqL a b (F_laws_eqLatchLink n) (some false) k m i
  | 0, _ => rfl
  | m + 1, i => by simp only [F_laws_eqLatchLinkS_L1_s, eqL_s, Option.bind_some, bne, EL_LatchLinkS (n := n) (a := a) (b := b) (k := k) m]
theorem E_LatchLinkS {n : Nat} {a : List S_LatchLink} (h : (fun xs => xs.length ≤ 1048576 ∧ ∀ x ∈ xs, SM_LatchLink x) a) (hn : 1048577 ≤ n) : F_laws_eqLatchLinkS n a a = some true := by
  rw [F_laws_eqLatchLinkS, EL_LatchLinkS (n := n)]
  have := eqL_same (f := F_laws_eqLatchLink n) (no := some false) (k := fun (i : Int) => some true) (fun x hx => E_LatchLink (h.2 x hx) hn) h.1 n 0 (by omega) (by omega)
  simpa using this
theorem E_LatchSystem {n : Nat} {a : S_LatchSystem} (h : SM_LatchSystem a) (hn : 1048577 ≤ n) : F_laws_eqLatchSystem n a a = some true := by
  simp [F_laws_eqLatchSystem, E_LatchS (h.1) hn, E_LatchLinkS (h.2) hn]
theorem EL_Int64S {n : Nat} {a b : List Int} {k : Int → Option Bool} : ∀ (m : Nat) (i : Int), F_laws_eqInt64S_L1 a b k m i = eqL a b ((fun x y => some (x == y))) (some false) k m i
  | 0, _ => rfl
  | m + 1, i => by simp only [F_laws_eqInt64S_L1_s, eqL_s, Option.bind_some, bne, EL_Int64S (n := n) (a := a) (b := b) (k := k) m]
theorem E_Int64S {n : Nat} {a : List Int} (h : (fun xs => xs.length ≤ 1048576 ∧ ∀ x ∈ xs, (fun _ => True) x) a) (hn : 1048577 ≤ n) : F_laws_eqInt64S n a a = some true := by
  rw [F_laws_eqInt64S, EL_Int64S (n := n)]
  have := eqL_same (f := (fun x y => some (x == y))) (no := some false) (k := fun (i : Int) => some true) (fun x hx => by simp) h.1 n 0 (by omega) (by omega)
  simpa using this
theorem M_LatchS {n : Nat} {a : List S_Latch} {k : Int} (h : a.length ≤ 1048576) (h0 : 0 ≤ k) (hk : k ≤ 1152921504606846976) (hn : 1048577 ≤ n) : ∃ r, F_laws_markLatchS n a k = some r ∧ k ≤ r.1 ∧ r.1 ≤ k + 67108864 := by
  obtain ⟨b, h1, h2, h3⟩ := markL (LM := fun m k i l => F_laws_markLatchS_L1 (fun i8 i9 l10 => (some (i8, l10))) m k i l) 2 (fun k x => (S_Latch.mk (k) (k + 1))) (by omega) (fun m k i l hi hi2 k0 k1 => by
      rw [show k + ((2 : Nat) : Int) = k + 1 + 1 by omega]
      simp only [F_laws_markLatchS_L1_s, dltE hi, cond_true, getI_elE hi, getI_setE hi, Option.bind_some, Int.toNat_natCast, List.set_set, wSE hi2, wrap64 (x := k + 1) (by omega) (by omega), wrap64 (x := k + 1 + 1) (by omega) (by omega)]) (fun m k l => by simp only [F_laws_markLatchS_L1_s, dnlE, cond_false]) h h0 hk n 0 a (by omega) (by omega) rfl (fun j _ hj => by omega)
  refine ⟨(k + ((2 : Nat) : Int) * a.length, b), by rw [F_laws_markLatchS]; simpa using h1, by dsimp only; omega, by dsimp only; omega⟩
theorem M_LatchLinkS {n : Nat} {a : List S_LatchLink} {k : Int} (h : a.length ≤ 1048576) (h0 : 0 ≤ k) (hk : k ≤ 1152921504606846976) (hn : 1048577 ≤ n) : ∃ r, F_laws_markLatchLinkS n a k = some r ∧ k ≤ r.1 ∧ r.1 ≤ k + 67108864 := by
  obtain ⟨b, h1, h2, h3⟩ := markL (LM := fun m k i l => F_laws_markLatchLinkS_L1 (fun i8 i9 l10 => (some (i8, l10))) m k i l) 4 (fun k x => (S_LatchLink.mk (k) (k + 1) (k + 1 + 1) (k + 1 + 1 + 1))) (by omega) (fun m k i l hi hi2 k0 k1 => by
      rw [show k + ((4 : Nat) : Int) = k + 1 + 1 + 1 + 1 by omega]
      simp only [F_laws_markLatchLinkS_L1_s, dltE hi, cond_true, getI_elE hi, getI_setE hi, Option.bind_some, Int.toNat_natCast, List.set_set, wSE hi2, wrap64 (x := k + 1) (by omega) (by omega), wrap64 (x := k + 1 + 1) (by omega) (by omega), wrap64 (x := k + 1 + 1 + 1) (by omega) (by omega), wrap64 (x := k + 1 + 1 + 1 + 1) (by omega) (by omega)]) (fun m k l => by simp only [F_laws_markLatchLinkS_L1_s, dnlE, cond_false]) h h0 hk n 0 a (by omega) (by omega) rfl (fun j _ hj => by omega)
  refine ⟨(k + ((4 : Nat) : Int) * a.length, b), by rw [F_laws_markLatchLinkS]; simpa using h1, by dsimp only; omega, by dsimp only; omega⟩
theorem M_LatchSystem {n : Nat} {a : S_LatchSystem} {k : Int} (h : SM_LatchSystem a) (h0 : 0 ≤ k) (hk : k ≤ 1152921000000000000) (hn : 1048577 ≤ n) : ∃ r, F_laws_markLatchSystem n a k = some r ∧ k ≤ r.1 ∧ r.1 ≤ k + 134217728 := by
  obtain ⟨r0, e0, l0, u0⟩ := M_LatchS (n := n) (k := k) h.1.1 (by omega) (by omega) hn
  obtain ⟨r1, e1, l1, u1⟩ := M_LatchLinkS (n := n) (k := r0.1) h.2.1 (by omega) (by omega) hn
  refine ⟨(r1.1, r0.2, r1.2), by rw [F_laws_markLatchSystem, e0, Option.bind_some, e1, Option.bind_some], by dsimp only; omega, by dsimp only; omega⟩
theorem M_Int64S {n : Nat} {a : List Int} {k : Int} (h : a.length ≤ 1048576) (h0 : 0 ≤ k) (hk : k ≤ 1152921504606846976) (hn : 1048577 ≤ n) : ∃ r, F_laws_markInt64S n a k = some r ∧ k ≤ r.1 ∧ r.1 ≤ k + 67108864 ∧ F_laws_heldInt64S n r.2 k = some r.1 := by
  obtain ⟨b, h1, h2, h3⟩ := markL (LM := fun m k i l => F_laws_markInt64S_L1 (fun i8 i9 l10 => (some (i8, l10))) m k i l) 1 (fun k x => (k)) (by omega) (fun m k i l hi hi2 k0 k1 => by
      rw [show k + ((1 : Nat) : Int) = k + 1 by omega]
      simp only [F_laws_markInt64S_L1_s, dltE hi, cond_true, getI_elE hi, getI_setE hi, Option.bind_some, Int.toNat_natCast, List.set_set, wSE hi2, wrap64 (x := k + 1) (by omega) (by omega)]) (fun m k l => by simp only [F_laws_markInt64S_L1_s, dnlE, cond_false]) h h0 hk n 0 a (by omega) (by omega) rfl (fun j _ hj => by omega)
  refine ⟨(k + ((1 : Nat) : Int) * a.length, b), by rw [F_laws_markInt64S]; simpa using h1, by dsimp only; omega, by dsimp only; omega, ?_⟩
  have := heldL (LH := fun m k i => F_laws_heldInt64S_L1 b (fun i5 i6 => (some i5)) m k i) 1 (fun k (x : Int) => (k)) (by omega) (fun m k i hi x hx hi2 k0 k1 => by
      rw [show k + ((1 : Nat) : Int) = k + 1 by omega]
      simp only [F_laws_heldInt64S_L1_s, dltE hi, cond_true, getI_elE hi, hx, Option.bind_some, bne_self_eq_false, cond_false, wSE hi2, wrap64 (x := k + 1) (by omega) (by omega)]) (fun m k => by simp only [F_laws_heldInt64S_L1_s, dnlE, cond_false]) (by omega) h0 hk h3 n 0 (by omega) (by omega)
  rw [h2] at this
  rw [F_laws_heldInt64S]; simpa using this
theorem Rd_2 : Rd Try.prog 2 (cInt .i64) (inK .i64) := Rd.int Try.underlying2
theorem Rd_109 : Rd Try.prog 109 C_Latch R_Latch := Rd.map (Rd.struct (fs := [_, _]) Try.underlying109 (by kernel_rfl) (RdF.cons Rd_2 rfl (by kernel_rfl) (RdF.one Rd_2 rfl (by kernel_rfl)))) (fun (x : S_Latch) => (x.Open, x.Close)) (fun p => (⟨p.1, p.2⟩ : S_Latch)) (fun _ => rfl)
theorem Rd_29 : Rd Try.prog 29 (cSl C_Latch) (fun xs => xs.length ≤ 9223372036854775807 ∧ ∀ x ∈ xs, R_Latch x) := Rd.slice Try.underlying29 (by kernel_rfl) rfl Rd_109
theorem Rd_111 : Rd Try.prog 111 C_LatchLink R_LatchLink := Rd.map (Rd.struct (fs := [_, _, _, _]) Try.underlying111 (by kernel_rfl) (RdF.cons Rd_2 rfl (by kernel_rfl) (RdF.cons Rd_2 rfl (by kernel_rfl) (RdF.cons Rd_2 rfl (by kernel_rfl) (RdF.one Rd_2 rfl (by kernel_rfl)))))) (fun (x : S_LatchLink) => (x.From, x.To, x.Delay, x.Shift)) (fun p => (⟨p.1, p.2.1, p.2.2.1, p.2.2.2⟩ : S_LatchLink)) (fun _ => rfl)
theorem Rd_30 : Rd Try.prog 30 (cSl C_LatchLink) (fun xs => xs.length ≤ 9223372036854775807 ∧ ∀ x ∈ xs, R_LatchLink x) := Rd.slice Try.underlying30 (by kernel_rfl) rfl Rd_111
theorem Rd_32 : Rd Try.prog 32 C_LatchSystem R_LatchSystem := Rd.map (Rd.struct (fs := [_, _]) Try.underlying32 (by kernel_rfl) (RdF.cons Rd_29 rfl (by kernel_rfl) (RdF.one Rd_30 rfl (by kernel_rfl)))) (fun (x : S_LatchSystem) => (x.Latches, x.Links)) (fun p => (⟨p.1, p.2⟩ : S_LatchSystem)) (fun _ => rfl)
end Go.Proofs.Ytmhmpfckdhiijaa
