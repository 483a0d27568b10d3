/- The data of the program, as plain Lean structures, and their cells; no condition. -/
import Derived.Test.YthjagnioabgceabGreatDoorEng
set_option linter.all false
namespace Go.Eng
open Go Go.RowKit
structure S_Pin where
  Name : ByteArray
  Dir : Int
  Cap : Int
  Clock : Bool
def C_Pin : Cod S_Pin := cMap (fun x => (x.Name, x.Dir, x.Cap, x.Clock)) (cPair cStr (cPair (cInt .i64) (cPair (cInt .i64) cBool)))
theorem C_Pin_open {w : World} {S : Nat → Prop} {x : S_Pin} {vs : List Value} (h : C_Pin.rep w S x vs) : vs = [.string x.Name, .int .i64 x.Dir, .int .i64 x.Cap, .bool x.Clock] := by
  simp only [C_Pin, cMap, cPair, cInt, cBool, cStr, cSl] at h
  obtain ⟨_, _, rfl, rfl, ⟨_, _, rfl, rfl, ⟨_, _, rfl, rfl, rfl⟩⟩⟩ := h; exact rfl
theorem C_Pin_mk {w : World} {S : Nat → Prop} {x : S_Pin} : C_Pin.rep w S x [.string x.Name, .int .i64 x.Dir, .int .i64 x.Cap, .bool x.Clock] := by
  simp only [C_Pin, cMap, cPair, cInt, cBool, cStr, cSl]
  exact ⟨_, _, rfl, rfl, ⟨_, _, rfl, rfl, ⟨_, _, rfl, rfl, rfl⟩⟩⟩
theorem C_Pin_n : C_Pin.n = 4 := rfl
instance : Flat C_Pin := by unfold C_Pin; infer_instance
structure S_Table where
  Slews : List Int
  Loads : List Int
  Values : List Int
def C_Table : Cod S_Table := cMap (fun x => (x.Slews, x.Loads, x.Values)) (cPair (cSl (cInt .i64)) (cPair (cSl (cInt .i64)) (cSl (cInt .i64))))
theorem C_Table_open {w : World} {S : Nat → Prop} {x : S_Table} {vs : List Value} (h : C_Table.rep w S x vs) : ∃ v1 v2 v3, vs = [v1, v2, v3] ∧ slRep (cInt .i64) w S x.Slews v1 ∧ slRep (cInt .i64) w S x.Loads v2 ∧ slRep (cInt .i64) w S x.Values v3 := by
  simp only [C_Table, cMap, cPair, cInt, cBool, cStr, cSl] at h
  obtain ⟨_, _, rfl, ⟨v1, rfl, h1⟩, ⟨_, _, rfl, ⟨v2, rfl, h2⟩, ⟨v3, rfl, h3⟩⟩⟩ := h; exact ⟨v1, v2, v3, rfl, h1, h2, h3⟩
theorem C_Table_mk {w : World} {S : Nat → Prop} {x : S_Table} {v1 v2 v3 : Value} (h1 : slRep (cInt .i64) w S x.Slews v1) (h2 : slRep (cInt .i64) w S x.Loads v2) (h3 : slRep (cInt .i64) w S x.Values v3) : C_Table.rep w S x [v1, v2, v3] := by
  simp only [C_Table, cMap, cPair, cInt, cBool, cStr, cSl]
  exact ⟨_, _, rfl, ⟨_, rfl, h1⟩, ⟨_, _, rfl, ⟨_, rfl, h2⟩, ⟨_, rfl, h3⟩⟩⟩
theorem C_Table_n : C_Table.n = 3 := rfl
structure S_Arc where
  Kind : Int
  From : Int
  To : Int
  Sense : Int
  Delay : List S_Table
  Slew : List S_Table
def C_Arc : Cod S_Arc := cMap (fun x => (x.Kind, x.From, x.To, x.Sense, x.Delay, x.Slew)) (cPair (cInt .i64) (cPair (cInt .i64) (cPair (cInt .i64) (cPair (cInt .i64) (cPair (cSl C_Table) (cSl C_Table))))))
theorem C_Arc_open {w : World} {S : Nat → Prop} {x : S_Arc} {vs : List Value} (h : C_Arc.rep w S x vs) : ∃ v1 v2, vs = [.int .i64 x.Kind, .int .i64 x.From, .int .i64 x.To, .int .i64 x.Sense, v1, v2] ∧ slRep C_Table w S x.Delay v1 ∧ slRep C_Table w S x.Slew v2 := by
  simp only [C_Arc, cMap, cPair, cInt, cBool, cStr, cSl] at h
  obtain ⟨_, _, rfl, rfl, ⟨_, _, rfl, rfl, ⟨_, _, rfl, rfl, ⟨_, _, rfl, rfl, ⟨_, _, rfl, ⟨v1, rfl, h1⟩, ⟨v2, rfl, h2⟩⟩⟩⟩⟩⟩ := h; exact ⟨v1, v2, rfl, h1, h2⟩
theorem C_Arc_mk {w : World} {S : Nat → Prop} {x : S_Arc} {v1 v2 : Value} (h1 : slRep C_Table w S x.Delay v1) (h2 : slRep C_Table w S x.Slew v2) : C_Arc.rep w S x [.int .i64 x.Kind, .int .i64 x.From, .int .i64 x.To, .int .i64 x.Sense, v1, v2] := by
  simp only [C_Arc, cMap, cPair, cInt, cBool, cStr, cSl]
  exact ⟨_, _, rfl, rfl, ⟨_, _, rfl, rfl, ⟨_, _, rfl, rfl, ⟨_, _, rfl, rfl, ⟨_, _, rfl, ⟨_, rfl, h1⟩, ⟨_, rfl, h2⟩⟩⟩⟩⟩⟩
theorem C_Arc_n : C_Arc.n = 6 := rfl
structure S_Cell where
  Name : ByteArray
  Kind : Int
  Pins : List S_Pin
  Arcs : List S_Arc
  Truth : List Int
  Leak : Int
  Energy : Int
def C_Cell : Cod S_Cell := cMap (fun x => (x.Name, x.Kind, x.Pins, x.Arcs, x.Truth, x.Leak, x.Energy)) (cPair cStr (cPair (cInt .i64) (cPair (cSl C_Pin) (cPair (cSl C_Arc) (cPair (cSl (cInt .i64)) (cPair (cInt .i64) (cInt .i64)))))))
theorem C_Cell_open {w : World} {S : Nat → Prop} {x : S_Cell} {vs : List Value} (h : C_Cell.rep w S x vs) : ∃ v1 v2 v3, vs = [.string x.Name, .int .i64 x.Kind, v1, v2, v3, .int .i64 x.Leak, .int .i64 x.Energy] ∧ slRep C_Pin w S x.Pins v1 ∧ slRep C_Arc w S x.Arcs v2 ∧ slRep (cInt .i64) w S x.Truth v3 := by
  simp only [C_Cell, cMap, cPair, cInt, cBool, cStr, cSl] at h
  obtain ⟨_, _, rfl, rfl, ⟨_, _, rfl, rfl, ⟨_, _, rfl, ⟨v1, rfl, h1⟩, ⟨_, _, rfl, ⟨v2, rfl, h2⟩, ⟨_, _, rfl, ⟨v3, rfl, h3⟩, ⟨_, _, rfl, rfl, rfl⟩⟩⟩⟩⟩⟩ := h; exact ⟨v1, v2, v3, rfl, h1, h2, h3⟩
theorem C_Cell_mk {w : World} {S : Nat → Prop} {x : S_Cell} {v1 v2 v3 : Value} (h1 : slRep C_Pin w S x.Pins v1) (h2 : slRep C_Arc w S x.Arcs v2) (h3 : slRep (cInt .i64) w S x.Truth v3) : C_Cell.rep w S x [.string x.Name, .int .i64 x.Kind, v1, v2, v3, .int .i64 x.Leak, .int .i64 x.Energy] := by
  simp only [C_Cell, cMap, cPair, cInt, cBool, cStr, cSl]
  exact ⟨_, _, rfl, rfl, ⟨_, _, rfl, rfl, ⟨_, _, rfl, ⟨_, rfl, h1⟩, ⟨_, _, rfl, ⟨_, rfl, h2⟩, ⟨_, _, rfl, ⟨_, rfl, h3⟩, ⟨_, _, rfl, rfl, rfl⟩⟩⟩⟩⟩⟩
theorem C_Cell_n : C_Cell.n = 7 := rfl
structure S_Span where
  Early : Int
  Late : Int
def C_Span : Cod S_Span := cMap (fun x => (x.Early, x.Late)) (cPair (cInt .i64) (cInt .i64))
theorem C_Span_open {w : World} {S : Nat → Prop} {x : S_Span} {vs : List Value} (h : C_Span.rep w S x vs) : vs = [.int .i64 x.Early, .int .i64 x.Late] := by
  simp only [C_Span, cMap, cPair, cInt, cBool, cStr, cSl] at h
  obtain ⟨_, _, rfl, rfl, rfl⟩ := h; exact rfl
theorem C_Span_mk {w : World} {S : Nat → Prop} {x : S_Span} : C_Span.rep w S x [.int .i64 x.Early, .int .i64 x.Late] := by
  simp only [C_Span, cMap, cPair, cInt, cBool, cStr, cSl]
  exact ⟨_, _, rfl, rfl, rfl⟩
theorem C_Span_n : C_Span.n = 2 := rfl
instance : Flat C_Span := by unfold C_Span; infer_instance
structure S_acceptRange where
  lo_ : Int
  hi_ : Int
def C_acceptRange : Cod S_acceptRange := cMap (fun x => (x.lo_, x.hi_)) (cPair (cInt .u8) (cInt .u8))
theorem C_acceptRange_open {w : World} {S : Nat → Prop} {x : S_acceptRange} {vs : List Value} (h : C_acceptRange.rep w S x vs) : vs = [.int .u8 x.lo_, .int .u8 x.hi_] := by
  simp only [C_acceptRange, cMap, cPair, cInt, cBool, cStr, cSl] at h
  obtain ⟨_, _, rfl, rfl, rfl⟩ := h; exact rfl
theorem C_acceptRange_mk {w : World} {S : Nat → Prop} {x : S_acceptRange} : C_acceptRange.rep w S x [.int .u8 x.lo_, .int .u8 x.hi_] := by
  simp only [C_acceptRange, cMap, cPair, cInt, cBool, cStr, cSl]
  exact ⟨_, _, rfl, rfl, rfl⟩
theorem C_acceptRange_n : C_acceptRange.n = 2 := rfl
instance : Flat C_acceptRange := by unfold C_acceptRange; infer_instance
structure A16_SacceptRange where
  e0 : S_acceptRange
  e1 : S_acceptRange
  e2 : S_acceptRange
  e3 : S_acceptRange
  e4 : S_acceptRange
  e5 : S_acceptRange
  e6 : S_acceptRange
  e7 : S_acceptRange
  e8 : S_acceptRange
  e9 : S_acceptRange
  e10 : S_acceptRange
  e11 : S_acceptRange
  e12 : S_acceptRange
  e13 : S_acceptRange
  e14 : S_acceptRange
  e15 : S_acceptRange
def C_A16_SacceptRange : Cod A16_SacceptRange := cMap (fun x => (x.e0, x.e1, x.e2, x.e3, x.e4, x.e5, x.e6, x.e7, x.e8, x.e9, x.e10, x.e11, x.e12, x.e13, x.e14, x.e15)) (cPair C_acceptRange (cPair C_acceptRange (cPair C_acceptRange (cPair C_acceptRange (cPair C_acceptRange (cPair C_acceptRange (cPair C_acceptRange (cPair C_acceptRange (cPair C_acceptRange (cPair C_acceptRange (cPair C_acceptRange (cPair C_acceptRange (cPair C_acceptRange (cPair C_acceptRange (cPair C_acceptRange C_acceptRange)))))))))))))))
theorem C_A16_SacceptRange_open {w : World} {S : Nat → Prop} {x : A16_SacceptRange} {vs : List Value} (h : C_A16_SacceptRange.rep w S x vs) : vs = [.int .u8 x.e0.lo_, .int .u8 x.e0.hi_, .int .u8 x.e1.lo_, .int .u8 x.e1.hi_, .int .u8 x.e2.lo_, .int .u8 x.e2.hi_, .int .u8 x.e3.lo_, .int .u8 x.e3.hi_, .int .u8 x.e4.lo_, .int .u8 x.e4.hi_, .int .u8 x.e5.lo_, .int .u8 x.e5.hi_, .int .u8 x.e6.lo_, .int .u8 x.e6.hi_, .int .u8 x.e7.lo_, .int .u8 x.e7.hi_, .int .u8 x.e8.lo_, .int .u8 x.e8.hi_, .int .u8 x.e9.lo_, .int .u8 x.e9.hi_, .int .u8 x.e10.lo_, .int .u8 x.e10.hi_, .int .u8 x.e11.lo_, .int .u8 x.e11.hi_, .int .u8 x.e12.lo_, .int .u8 x.e12.hi_, .int .u8 x.e13.lo_, .int .u8 x.e13.hi_, .int .u8 x.e14.lo_, .int .u8 x.e14.hi_, .int .u8 x.e15.lo_, .int .u8 x.e15.hi_] := by
  simp only [C_A16_SacceptRange, cMap, cPair, cInt, cBool, cStr, cSl, C_acceptRange, C_acceptRange, C_acceptRange, C_acceptRange, C_acceptRange, C_acceptRange, C_acceptRange, C_acceptRange, C_acceptRange, C_acceptRange, C_acceptRange, C_acceptRange, C_acceptRange, C_acceptRange, C_acceptRange, C_acceptRange] at h
  obtain ⟨_, _, rfl, ⟨_, _, rfl, rfl, rfl⟩, ⟨_, _, rfl, ⟨_, _, rfl, rfl, rfl⟩, ⟨_, _, rfl, ⟨_, _, rfl, rfl, rfl⟩, ⟨_, _, rfl, ⟨_, _, rfl, rfl, rfl⟩, ⟨_, _, rfl, ⟨_, _, rfl, rfl, rfl⟩, ⟨_, _, rfl, ⟨_, _, rfl, rfl, rfl⟩, ⟨_, _, rfl, ⟨_, _, rfl, rfl, rfl⟩, ⟨_, _, rfl, ⟨_, _, rfl, rfl, rfl⟩, ⟨_, _, rfl, ⟨_, _, rfl, rfl, rfl⟩, ⟨_, _, rfl, ⟨_, _, rfl, rfl, rfl⟩, ⟨_, _, rfl, ⟨_, _, rfl, rfl, rfl⟩, ⟨_, _, rfl, ⟨_, _, rfl, rfl, rfl⟩, ⟨_, _, rfl, ⟨_, _, rfl, rfl, rfl⟩, ⟨_, _, rfl, ⟨_, _, rfl, rfl, rfl⟩, ⟨_, _, rfl, ⟨_, _, rfl, rfl, rfl⟩, ⟨_, _, rfl, rfl, rfl⟩⟩⟩⟩⟩⟩⟩⟩⟩⟩⟩⟩⟩⟩⟩⟩ := h; exact rfl
theorem C_A16_SacceptRange_mk {w : World} {S : Nat → Prop} {x : A16_SacceptRange} : C_A16_SacceptRange.rep w S x [.int .u8 x.e0.lo_, .int .u8 x.e0.hi_, .int .u8 x.e1.lo_, .int .u8 x.e1.hi_, .int .u8 x.e2.lo_, .int .u8 x.e2.hi_, .int .u8 x.e3.lo_, .int .u8 x.e3.hi_, .int .u8 x.e4.lo_, .int .u8 x.e4.hi_, .int .u8 x.e5.lo_, .int .u8 x.e5.hi_, .int .u8 x.e6.lo_, .int .u8 x.e6.hi_, .int .u8 x.e7.lo_, .int .u8 x.e7.hi_, .int .u8 x.e8.lo_, .int .u8 x.e8.hi_, .int .u8 x.e9.lo_, .int .u8 x.e9.hi_, .int .u8 x.e10.lo_, .int .u8 x.e10.hi_, .int .u8 x.e11.lo_, .int .u8 x.e11.hi_, .int .u8 x.e12.lo_, .int .u8 x.e12.hi_, .int .u8 x.e13.lo_, .int .u8 x.e13.hi_, .int .u8 x.e14.lo_, .int .u8 x.e14.hi_, .int .u8 x.e15.lo_, .int .u8 x.e15.hi_] := by
  simp only [C_A16_SacceptRange, cMap, cPair, cInt, cBool, cStr, cSl, C_acceptRange, C_acceptRange, C_acceptRange, C_acceptRange, C_acceptRange, C_acceptRange, C_acceptRange, C_acceptRange, C_acceptRange, C_acceptRange, C_acceptRange, C_acceptRange, C_acceptRange, C_acceptRange, C_acceptRange, C_acceptRange]
  exact ⟨_, _, rfl, ⟨_, _, rfl, rfl, rfl⟩, ⟨_, _, rfl, ⟨_, _, rfl, rfl, rfl⟩, ⟨_, _, rfl, ⟨_, _, rfl, rfl, rfl⟩, ⟨_, _, rfl, ⟨_, _, rfl, rfl, rfl⟩, ⟨_, _, rfl, ⟨_, _, rfl, rfl, rfl⟩, ⟨_, _, rfl, ⟨_, _, rfl, rfl, rfl⟩, ⟨_, _, rfl, ⟨_, _, rfl, rfl, rfl⟩, ⟨_, _, rfl, ⟨_, _, rfl, rfl, rfl⟩, ⟨_, _, rfl, ⟨_, _, rfl, rfl, rfl⟩, ⟨_, _, rfl, ⟨_, _, rfl, rfl, rfl⟩, ⟨_, _, rfl, ⟨_, _, rfl, rfl, rfl⟩, ⟨_, _, rfl, ⟨_, _, rfl, rfl, rfl⟩, ⟨_, _, rfl, ⟨_, _, rfl, rfl, rfl⟩, ⟨_, _, rfl, ⟨_, _, rfl, rfl, rfl⟩, ⟨_, _, rfl, ⟨_, _, rfl, rfl, rfl⟩, ⟨_, _, rfl, rfl, rfl⟩⟩⟩⟩⟩⟩⟩⟩⟩⟩⟩⟩⟩⟩⟩⟩
theorem C_A16_SacceptRange_n : C_A16_SacceptRange.n = 32 := rfl
instance : Flat C_A16_SacceptRange := by unfold C_A16_SacceptRange; infer_instance
structure A2_Int where
  e0 : Int
  e1 : Int
def C_A2_Int : Cod A2_Int := cMap (fun x => (x.e0, x.e1)) (cPair (cInt .i64) (cInt .i64))
theorem C_A2_Int_open {w : World} {S : Nat → Prop} {x : A2_Int} {vs : List Value} (h : C_A2_Int.rep w S x vs) : vs = [.int .i64 x.e0, .int .i64 x.e1] := by
  simp only [C_A2_Int, cMap, cPair, cInt, cBool, cStr, cSl] at h
  obtain ⟨_, _, rfl, rfl, rfl⟩ := h; exact rfl
theorem C_A2_Int_mk {w : World} {S : Nat → Prop} {x : A2_Int} : C_A2_Int.rep w S x [.int .i64 x.e0, .int .i64 x.e1] := by
  simp only [C_A2_Int, cMap, cPair, cInt, cBool, cStr, cSl]
  exact ⟨_, _, rfl, rfl, rfl⟩
theorem C_A2_Int_n : C_A2_Int.n = 2 := rfl
instance : Flat C_A2_Int := by unfold C_A2_Int; infer_instance
def inK (k : IntKind) (x : Int) : Prop := k.min ≤ x ∧ x ≤ k.max
theorem inK.i64 {x : Int} (h : inK .i64 x) : -9223372036854775808 ≤ x ∧ x ≤ 9223372036854775807 := h
def R_Pin (x : S_Pin) : Prop := (fun s => s.size ≤ maxLen) x.Name ∧ (inK .i64) x.Dir ∧ (inK .i64) x.Cap ∧ (fun _ => True) x.Clock
def R_Table (x : S_Table) : Prop := (fun xs => xs.length ≤ 9223372036854775807 ∧ ∀ x ∈ xs, (inK .i64) x) x.Slews ∧ (fun xs => xs.length ≤ 9223372036854775807 ∧ ∀ x ∈ xs, (inK .i64) x) x.Loads ∧ (fun xs => xs.length ≤ 9223372036854775807 ∧ ∀ x ∈ xs, (inK .i64) x) x.Values
def R_Arc (x : S_Arc) : Prop := (inK .i64) x.Kind ∧ (inK .i64) x.From ∧ (inK .i64) x.To ∧ (inK .i64) x.Sense ∧ (fun xs => xs.length ≤ 9223372036854775807 ∧ ∀ x ∈ xs, R_Table x) x.Delay ∧ (fun xs => xs.length ≤ 9223372036854775807 ∧ ∀ x ∈ xs, R_Table x) x.Slew
def R_Cell (x : S_Cell) : Prop := (fun s => s.size ≤ maxLen) x.Name ∧ (inK .i64) x.Kind ∧ (fun xs => xs.length ≤ 9223372036854775807 ∧ ∀ x ∈ xs, R_Pin x) x.Pins ∧ (fun xs => xs.length ≤ 9223372036854775807 ∧ ∀ x ∈ xs, R_Arc x) x.Arcs ∧ (fun xs => xs.length ≤ 9223372036854775807 ∧ ∀ x ∈ xs, (inK .i64) x) x.Truth ∧ (inK .i64) x.Leak ∧ (inK .i64) x.Energy
def R_Span (x : S_Span) : Prop := (inK .i64) x.Early ∧ (inK .i64) x.Late
def R_acceptRange (x : S_acceptRange) : Prop := (inK .u8) x.lo_ ∧ (inK .u8) x.hi_
def R_A16_SacceptRange (x : A16_SacceptRange) : Prop := R_acceptRange x.e0 ∧ R_acceptRange x.e1 ∧ R_acceptRange x.e2 ∧ R_acceptRange x.e3 ∧ R_acceptRange x.e4 ∧ R_acceptRange x.e5 ∧ R_acceptRange x.e6 ∧ R_acceptRange x.e7 ∧ R_acceptRange x.e8 ∧ R_acceptRange x.e9 ∧ R_acceptRange x.e10 ∧ R_acceptRange x.e11 ∧ R_acceptRange x.e12 ∧ R_acceptRange x.e13 ∧ R_acceptRange x.e14 ∧ R_acceptRange x.e15
def R_A2_Int (x : A2_Int) : Prop := (inK .i64) x.e0 ∧ (inK .i64) x.e1
def SM_Pin (x : S_Pin) : Prop := (fun s => s.size ≤ 1048576) x.Name ∧ (fun _ => True) x.Dir ∧ (fun _ => True) x.Cap ∧ (fun _ => True) x.Clock
def SM_Table (x : S_Table) : Prop := (fun xs => xs.length ≤ 1048576 ∧ ∀ x ∈ xs, (fun _ => True) x) x.Slews ∧ (fun xs => xs.length ≤ 1048576 ∧ ∀ x ∈ xs, (fun _ => True) x) x.Loads ∧ (fun xs => xs.length ≤ 1048576 ∧ ∀ x ∈ xs, (fun _ => True) x) x.Values
def SM_Arc (x : S_Arc) : Prop := (fun _ => True) x.Kind ∧ (fun _ => True) x.From ∧ (fun _ => True) x.To ∧ (fun _ => True) x.Sense ∧ (fun xs => xs.length ≤ 1048576 ∧ ∀ x ∈ xs, SM_Table x) x.Delay ∧ (fun xs => xs.length ≤ 1048576 ∧ ∀ x ∈ xs, SM_Table x) x.Slew
def SM_Cell (x : S_Cell) : Prop := (fun s => s.size ≤ 1048576) x.Name ∧ (fun _ => True) x.Kind ∧ (fun xs => xs.length ≤ 1048576 ∧ ∀ x ∈ xs, SM_Pin x) x.Pins ∧ (fun xs => xs.length ≤ 1048576 ∧ ∀ x ∈ xs, SM_Arc x) x.Arcs ∧ (fun xs => xs.length ≤ 1048576 ∧ ∀ x ∈ xs, (fun _ => True) x) x.Truth ∧ (fun _ => True) x.Leak ∧ (fun _ => True) x.Energy
def SM_Span (x : S_Span) : Prop := (fun _ => True) x.Early ∧ (fun _ => True) x.Late
def SM_acceptRange (x : S_acceptRange) : Prop := (fun _ => True) x.lo_ ∧ (fun _ => True) x.hi_
def SM_A16_SacceptRange (x : A16_SacceptRange) : Prop := SM_acceptRange x.e0 ∧ SM_acceptRange x.e1 ∧ SM_acceptRange x.e2 ∧ SM_acceptRange x.e3 ∧ SM_acceptRange x.e4 ∧ SM_acceptRange x.e5 ∧ SM_acceptRange x.e6 ∧ SM_acceptRange x.e7 ∧ SM_acceptRange x.e8 ∧ SM_acceptRange x.e9 ∧ SM_acceptRange x.e10 ∧ SM_acceptRange x.e11 ∧ SM_acceptRange x.e12 ∧ SM_acceptRange x.e13 ∧ SM_acceptRange x.e14 ∧ SM_acceptRange x.e15
def SM_A2_Int (x : A2_Int) : Prop := (fun _ => True) x.e0 ∧ (fun _ => True) x.e1
end Go.Eng
