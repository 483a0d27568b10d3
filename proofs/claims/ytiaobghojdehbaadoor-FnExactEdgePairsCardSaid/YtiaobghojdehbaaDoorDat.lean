/- The data of the program, as plain Lean structures, and their cells; no condition. -/
import Derived.Test.YtiaobghojdehbaaDoorEng
set_option linter.all false
namespace Go.Eng
open Go Go.RowKit
structure S_Clock where
 Name:ByteArray
 Place:Int
 Period:Int
 RiseAt:Int
 FallAt:Int
 Source:Int
 Divide:Int
 Invert:Bool
 EarlyLatency:Int
 LateLatency:Int
 Uncertainty:Int
def C_Clock:Cod S_Clock:=cMap (fun x=>(x.Name,x.Place,x.Period,x.RiseAt,x.FallAt,x.Source,x.Divide,x.Invert,x.EarlyLatency,x.LateLatency,x.Uncertainty)) (cPair cStr (cPair (cInt .i64) (cPair (cInt .i64) (cPair (cInt .i64) (cPair (cInt .i64) (cPair (cInt .i64) (cPair (cInt .i64) (cPair cBool (cPair (cInt .i64) (cPair (cInt .i64) (cInt .i64)))))))))))
theorem C_Clock_open {w:World} {S:Nat → Prop} {x:S_Clock} {vs:List Value} (h:C_Clock.rep w S x vs):vs = [.string x.Name,.int .i64 x.Place,.int .i64 x.Period,.int .i64 x.RiseAt,.int .i64 x.FallAt,.int .i64 x.Source,.int .i64 x.Divide,.bool x.Invert,.int .i64 x.EarlyLatency,.int .i64 x.LateLatency,.int .i64 x.Uncertainty]:=by
 simp only [C_Clock,cMap,cPair,cInt,cBool,cStr,cSl] at h
 obtain ⟨_,_,rfl,rfl,⟨_,_,rfl,rfl,⟨_,_,rfl,rfl,⟨_,_,rfl,rfl,⟨_,_,rfl,rfl,⟨_,_,rfl,rfl,⟨_,_,rfl,rfl,⟨_,_,rfl,rfl,⟨_,_,rfl,rfl,⟨_,_,rfl,rfl,rfl⟩⟩⟩⟩⟩⟩⟩⟩⟩⟩:=h; exact rfl
theorem C_Clock_mk {w:World} {S:Nat → Prop} {x:S_Clock}:C_Clock.rep w S x [.string x.Name,.int .i64 x.Place,.int .i64 x.Period,.int .i64 x.RiseAt,.int .i64 x.FallAt,.int .i64 x.Source,.int .i64 x.Divide,.bool x.Invert,.int .i64 x.EarlyLatency,.int .i64 x.LateLatency,.int .i64 x.Uncertainty]:=by
 simp only [C_Clock,cMap,cPair,cInt,cBool,cStr,cSl]
 exact ⟨_,_,rfl,rfl,⟨_,_,rfl,rfl,⟨_,_,rfl,rfl,⟨_,_,rfl,rfl,⟨_,_,rfl,rfl,⟨_,_,rfl,rfl,⟨_,_,rfl,rfl,⟨_,_,rfl,rfl,⟨_,_,rfl,rfl,⟨_,_,rfl,rfl,rfl⟩⟩⟩⟩⟩⟩⟩⟩⟩⟩
instance:Flat C_Clock:=by unfold C_Clock; infer_instance
structure A2_Int where
 e0:Int
 e1:Int
structure S_wave where
 period_:Int
 edges_:A2_Int
structure S_edges where
 from_:S_wave
 to_:S_wave
 ea_:Int
 eb_:Int
 hyper_:Int
structure S_l14Wave where
 period_:Int
 rise_:Int
 fall_:Int
def inK (k:IntKind) (x:Int):Prop:=k.min ≤ x ∧ x ≤ k.max
theorem inK.i64 {x:Int} (h:inK .i64 x):-9223372036854775808 ≤ x ∧ x ≤ 9223372036854775807:=h
def R_Clock (x:S_Clock):Prop:=(fun s=>s.size ≤ maxLen) x.Name ∧ (inK .i64) x.Place ∧ (inK .i64) x.Period ∧ (inK .i64) x.RiseAt ∧ (inK .i64) x.FallAt ∧ (inK .i64) x.Source ∧ (inK .i64) x.Divide ∧ (fun _=>True) x.Invert ∧ (inK .i64) x.EarlyLatency ∧ (inK .i64) x.LateLatency ∧ (inK .i64) x.Uncertainty
def SM_Clock (x:S_Clock):Prop:=(fun s=>s.size ≤ 1048576) x.Name ∧ (fun _=>True) x.Place ∧ (fun _=>True) x.Period ∧ (fun _=>True) x.RiseAt ∧ (fun _=>True) x.FallAt ∧ (fun _=>True) x.Source ∧ (fun _=>True) x.Divide ∧ (fun _=>True) x.Invert ∧ (fun _=>True) x.EarlyLatency ∧ (fun _=>True) x.LateLatency ∧ (fun _=>True) x.Uncertainty
end Go.Eng
