/- The data of the program, as plain Lean structures, and their cells; no condition. -/
import Derived.Test.YtjhainjcamfohaaEng
set_option linter.all false
namespace Go.Eng
open Go Go.RowKit
structure S_Check where
 Instance:Int
 Arc:Int
 Transition:Int
 Slack:Int
def C_Check:Cod S_Check:=cMap (fun x=>(x.Instance,x.Arc,x.Transition,x.Slack)) (cPair (cInt .i64) (cPair (cInt .i64) (cPair (cInt .i64) (cInt .i64))))
theorem C_Check_open {w:World} {S:Nat → Prop} {x:S_Check} {vs:List Value} (h:C_Check.rep w S x vs):vs = [.int .i64 x.Instance,.int .i64 x.Arc,.int .i64 x.Transition,.int .i64 x.Slack]:=by
 simp only [C_Check,cMap,cPair,cInt,cBool,cStr,cSl] at h
 obtain ⟨_,_,rfl,rfl,⟨_,_,rfl,rfl,⟨_,_,rfl,rfl,rfl⟩⟩⟩:=h; exact rfl
theorem C_Check_mk {w:World} {S:Nat → Prop} {x:S_Check}:C_Check.rep w S x [.int .i64 x.Instance,.int .i64 x.Arc,.int .i64 x.Transition,.int .i64 x.Slack]:=by
 simp only [C_Check,cMap,cPair,cInt,cBool,cStr,cSl]
 exact ⟨_,_,rfl,rfl,⟨_,_,rfl,rfl,⟨_,_,rfl,rfl,rfl⟩⟩⟩
instance:Flat C_Check:=by unfold C_Check; infer_instance
structure S_l01Source where
 code_:List Int
 at_:Int
 seed_:Int
def inK (k:IntKind) (x:Int):Prop:=k.min ≤ x ∧ x ≤ k.max
theorem inK.i64 {x:Int} (h:inK .i64 x):-9223372036854775808 ≤ x ∧ x ≤ 9223372036854775807:=h
end Go.Eng
