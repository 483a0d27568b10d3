/- The data of the program, as plain Lean structures, and their cells; no condition. -/
import Derived.Test.YtmhmpfckdhiijaaEng
set_option linter.all false
namespace Go.Eng
open Go Go.RowKit
structure S_Latch where
  Open : Int
  Close : Int
def C_Latch : Cod S_Latch := cMap (fun x => (x.Open, x.Close)) (cPair (cInt .i64) (cInt .i64))
theorem C_Latch_open {w : World} {S : Nat → Prop} {x : S_Latch} {vs : List Value} (h : C_Latch.rep w S x vs) : vs = [.int .i64 x.Open, .int .i64 x.Close] := by
  simp only [C_Latch, cMap, cPair, cInt, cBool, cStr, cSl] at h
  obtain ⟨_, _, rfl, rfl, rfl⟩ := h; exact rfl
theorem C_Latch_mk {w : World} {S : Nat → Prop} {x : S_Latch} : C_Latch.rep w S x [.int .i64 x.Open, .int .i64 x.Close] := by
  simp only [C_Latch, cMap, cPair, cInt, cBool, cStr, cSl]
  exact ⟨_, _, rfl, rfl, rfl⟩
theorem C_Latch_n : C_Latch.n = 2 := rfl
instance : Flat C_Latch := by unfold C_Latch; infer_instance
structure S_LatchLink where
  From : Int
  To : Int
  Delay : Int
  Shift : Int
def C_LatchLink : Cod S_LatchLink := cMap (fun x => (x.From, x.To, x.Delay, x.Shift)) (cPair (cInt .i64) (cPair (cInt .i64) (cPair (cInt .i64) (cInt .i64))))
theorem C_LatchLink_open {w : World} {S : Nat → Prop} {x : S_LatchLink} {vs : List Value} (h : C_LatchLink.rep w S x vs) : vs = [.int .i64 x.From, .int .i64 x.To, .int .i64 x.Delay, .int .i64 x.Shift] := by
  simp only [C_LatchLink, cMap, cPair, cInt, cBool, cStr, cSl] at h
  obtain ⟨_, _, rfl, rfl, ⟨_, _, rfl, rfl, ⟨_, _, rfl, rfl, rfl⟩⟩⟩ := h; exact rfl
theorem C_LatchLink_mk {w : World} {S : Nat → Prop} {x : S_LatchLink} : C_LatchLink.rep w S x [.int .i64 x.From, .int .i64 x.To, .int .i64 x.Delay, .int .i64 x.Shift] := by
  simp only [C_LatchLink, cMap, cPair, cInt, cBool, cStr, cSl]
  exact ⟨_, _, rfl, rfl, ⟨_, _, rfl, rfl, ⟨_, _, rfl, rfl, rfl⟩⟩⟩
theorem C_LatchLink_n : C_LatchLink.n = 4 := rfl
instance : Flat C_LatchLink := by unfold C_LatchLink; infer_instance
structure S_LatchSystem where
  Latches : List S_Latch
  Links : List S_LatchLink
def C_LatchSystem : Cod S_LatchSystem := cMap (fun x => (x.Latches, x.Links)) (cPair (cSl C_Latch) (cSl C_LatchLink))
theorem C_LatchSystem_open {w : World} {S : Nat → Prop} {x : S_LatchSystem} {vs : List Value} (h : C_LatchSystem.rep w S x vs) : ∃ v1 v2, vs = [v1, v2] ∧ slRep C_Latch w S x.Latches v1 ∧ slRep C_LatchLink w S x.Links v2 := by
  simp only [C_LatchSystem, cMap, cPair, cInt, cBool, cStr, cSl] at h
  obtain ⟨_, _, rfl, ⟨v1, rfl, h1⟩, ⟨v2, rfl, h2⟩⟩ := h; exact ⟨v1, v2, rfl, h1, h2⟩
theorem C_LatchSystem_mk {w : World} {S : Nat → Prop} {x : S_LatchSystem} {v1 v2 : Value} (h1 : slRep C_Latch w S x.Latches v1) (h2 : slRep C_LatchLink w S x.Links v2) : C_LatchSystem.rep w S x [v1, v2] := by
  simp only [C_LatchSystem, cMap, cPair, cInt, cBool, cStr, cSl]
  exact ⟨_, _, rfl, ⟨_, rfl, h1⟩, ⟨_, rfl, h2⟩⟩
theorem C_LatchSystem_n : C_LatchSystem.n = 2 := rfl
structure S_Check where
  Instance : Int
  Arc : Int
  Transition : Int
  Slack : Int
def C_Check : Cod S_Check := cMap (fun x => (x.Instance, x.Arc, x.Transition, x.Slack)) (cPair (cInt .i64) (cPair (cInt .i64) (cPair (cInt .i64) (cInt .i64))))
theorem C_Check_open {w : World} {S : Nat → Prop} {x : S_Check} {vs : List Value} (h : C_Check.rep w S x vs) : vs = [.int .i64 x.Instance, .int .i64 x.Arc, .int .i64 x.Transition, .int .i64 x.Slack] := by
  simp only [C_Check, cMap, cPair, cInt, cBool, cStr, cSl] at h
  obtain ⟨_, _, rfl, rfl, ⟨_, _, rfl, rfl, ⟨_, _, rfl, rfl, rfl⟩⟩⟩ := h; exact rfl
theorem C_Check_mk {w : World} {S : Nat → Prop} {x : S_Check} : C_Check.rep w S x [.int .i64 x.Instance, .int .i64 x.Arc, .int .i64 x.Transition, .int .i64 x.Slack] := by
  simp only [C_Check, cMap, cPair, cInt, cBool, cStr, cSl]
  exact ⟨_, _, rfl, rfl, ⟨_, _, rfl, rfl, ⟨_, _, rfl, rfl, rfl⟩⟩⟩
theorem C_Check_n : C_Check.n = 4 := rfl
instance : Flat C_Check := by unfold C_Check; infer_instance
structure S_dice where
  b_ : List Int
  i_ : Int
  h_ : Int
def C_dice : Cod S_dice := cMap (fun x => (x.b_, x.i_, x.h_)) (cPair (cSl (cInt .u8)) (cPair (cInt .i64) (cInt .u64)))
theorem C_dice_open {w : World} {S : Nat → Prop} {x : S_dice} {vs : List Value} (h : C_dice.rep w S x vs) : ∃ v1, vs = [v1, .int .i64 x.i_, .int .u64 x.h_] ∧ slRep (cInt .u8) w S x.b_ v1 := by
  simp only [C_dice, cMap, cPair, cInt, cBool, cStr, cSl] at h
  obtain ⟨_, _, rfl, ⟨v1, rfl, h1⟩, ⟨_, _, rfl, rfl, rfl⟩⟩ := h; exact ⟨v1, rfl, h1⟩
theorem C_dice_mk {w : World} {S : Nat → Prop} {x : S_dice} {v1 : Value} (h1 : slRep (cInt .u8) w S x.b_ v1) : C_dice.rep w S x [v1, .int .i64 x.i_, .int .u64 x.h_] := by
  simp only [C_dice, cMap, cPair, cInt, cBool, cStr, cSl]
  exact ⟨_, _, rfl, ⟨_, rfl, h1⟩, ⟨_, _, rfl, rfl, rfl⟩⟩
theorem C_dice_n : C_dice.n = 3 := rfl
structure S_l01Source where
  code_ : List Int
  at_ : Int
  seed_ : Int
def C_l01Source : Cod S_l01Source := cMap (fun x => (x.code_, x.at_, x.seed_)) (cPair (cSl (cInt .u8)) (cPair (cInt .i64) (cInt .i64)))
theorem C_l01Source_open {w : World} {S : Nat → Prop} {x : S_l01Source} {vs : List Value} (h : C_l01Source.rep w S x vs) : ∃ v1, vs = [v1, .int .i64 x.at_, .int .i64 x.seed_] ∧ slRep (cInt .u8) w S x.code_ v1 := by
  simp only [C_l01Source, cMap, cPair, cInt, cBool, cStr, cSl] at h
  obtain ⟨_, _, rfl, ⟨v1, rfl, h1⟩, ⟨_, _, rfl, rfl, rfl⟩⟩ := h; exact ⟨v1, rfl, h1⟩
theorem C_l01Source_mk {w : World} {S : Nat → Prop} {x : S_l01Source} {v1 : Value} (h1 : slRep (cInt .u8) w S x.code_ v1) : C_l01Source.rep w S x [v1, .int .i64 x.at_, .int .i64 x.seed_] := by
  simp only [C_l01Source, cMap, cPair, cInt, cBool, cStr, cSl]
  exact ⟨_, _, rfl, ⟨_, rfl, h1⟩, ⟨_, _, rfl, rfl, rfl⟩⟩
theorem C_l01Source_n : C_l01Source.n = 3 := rfl
def inK (k : IntKind) (x : Int) : Prop := k.min ≤ x ∧ x ≤ k.max
theorem inK.i64 {x : Int} (h : inK .i64 x) : -9223372036854775808 ≤ x ∧ x ≤ 9223372036854775807 := h
def R_Latch (x : S_Latch) : Prop := (inK .i64) x.Open ∧ (inK .i64) x.Close
def R_LatchLink (x : S_LatchLink) : Prop := (inK .i64) x.From ∧ (inK .i64) x.To ∧ (inK .i64) x.Delay ∧ (inK .i64) x.Shift
def R_LatchSystem (x : S_LatchSystem) : Prop := (fun xs => xs.length ≤ 9223372036854775807 ∧ ∀ x ∈ xs, R_Latch x) x.Latches ∧ (fun xs => xs.length ≤ 9223372036854775807 ∧ ∀ x ∈ xs, R_LatchLink x) x.Links
def R_Check (x : S_Check) : Prop := (inK .i64) x.Instance ∧ (inK .i64) x.Arc ∧ (inK .i64) x.Transition ∧ (inK .i64) x.Slack
def R_dice (x : S_dice) : Prop := (fun xs => xs.length ≤ 9223372036854775807 ∧ ∀ x ∈ xs, (inK .u8) x) x.b_ ∧ (inK .i64) x.i_ ∧ (inK .u64) x.h_
def R_l01Source (x : S_l01Source) : Prop := (fun xs => xs.length ≤ 9223372036854775807 ∧ ∀ x ∈ xs, (inK .u8) x) x.code_ ∧ (inK .i64) x.at_ ∧ (inK .i64) x.seed_
def SM_Latch (x : S_Latch) : Prop := (fun _ => True) x.Open ∧ (fun _ => True) x.Close
def SM_LatchLink (x : S_LatchLink) : Prop := (fun _ => True) x.From ∧ (fun _ => True) x.To ∧ (fun _ => True) x.Delay ∧ (fun _ => True) x.Shift
def SM_LatchSystem (x : S_LatchSystem) : Prop := (fun xs => xs.length ≤ 1048576 ∧ ∀ x ∈ xs, SM_Latch x) x.Latches ∧ (fun xs => xs.length ≤ 1048576 ∧ ∀ x ∈ xs, SM_LatchLink x) x.Links
def SM_Check (x : S_Check) : Prop := (fun _ => True) x.Instance ∧ (fun _ => True) x.Arc ∧ (fun _ => True) x.Transition ∧ (fun _ => True) x.Slack
def SM_dice (x : S_dice) : Prop := (fun xs => xs.length ≤ 1048576 ∧ ∀ x ∈ xs, (fun _ => True) x) x.b_ ∧ (fun _ => True) x.i_ ∧ (fun _ => True) x.h_
def SM_l01Source (x : S_l01Source) : Prop := (fun xs => xs.length ≤ 1048576 ∧ ∀ x ∈ xs, (fun _ => True) x) x.code_ ∧ (fun _ => True) x.at_ ∧ (fun _ => True) x.seed_
end Go.Eng
