/- The data of the program, as plain Lean structures, and their cells; no condition. -/
import Derived.Test.YtejmafeocaidlabGreatDoorEng
set_option linter.all false
namespace Go.Eng
open Go Go.RowKit
structure DZ where
 f:ByteArray
 b:Int
 c:Int
 d:Bool
def C_Pin:EJ DZ:=FZ (fun x=>(x.f,x.b,x.c,x.d)) (CV Bc (CV (Bo .i64) (CV (Bo .i64) CD)))
theorem Fg{w:World}{S:Nat->Prop}{x:DZ}{vs:List Value}(h:C_Pin.rep w S x vs):vs=[.string x.f,.int .i64 x.b,.int .i64 x.c,.bool x.d]:=by
 simp only [C_Pin,FZ,CV,Bo,CD,Bc,Hh]at h
 obtain⟨_,_,rfl,rfl,⟨_,_,rfl,rfl,⟨_,_,rfl,rfl,rfl⟩⟩⟩:=h;exact rfl
theorem NF{w:World}{S:Nat->Prop}{x:DZ}:C_Pin.rep w S x [.string x.f,.int .i64 x.b,.int .i64 x.c,.bool x.d]:=by
 simp only [C_Pin,FZ,CV,Bo,CD,Bc,Hh]
 exact⟨_,_,rfl,rfl,⟨_,_,rfl,rfl,⟨_,_,rfl,rfl,rfl⟩⟩⟩
instance:Es C_Pin:=by unfold C_Pin;infer_instance
structure Bm where
 d:List Int
 c:List Int
 b:List Int
def C_Table:EJ Bm:=FZ (fun x=>(x.d,x.c,x.b)) (CV (Hh (Bo .i64)) (CV (Hh (Bo .i64)) (Hh (Bo .i64))))
theorem HS{w:World}{S:Nat->Prop}{x:Bm}{vs:List Value}(h:C_Table.rep w S x vs):∃v1 v2 v3,vs=[v1,v2,v3]∧AF (Bo .i64) w S x.d v1∧AF (Bo .i64) w S x.c v2∧AF (Bo .i64) w S x.b v3:=by
 simp only [C_Table,FZ,CV,Bo,CD,Bc,Hh]at h
 obtain⟨_,_,rfl,⟨v1,rfl,h1⟩,⟨_,_,rfl,⟨v2,rfl,h2⟩,⟨v3,rfl,h3⟩⟩⟩:=h;exact⟨v1,v2,v3,rfl,h1,h2,h3⟩
theorem Rr{w:World}{S:Nat->Prop}{x:Bm}{v1 v2 v3:Value}(h1:AF (Bo .i64) w S x.d v1)(h2:AF (Bo .i64) w S x.c v2)(h3:AF (Bo .i64) w S x.b v3):C_Table.rep w S x [v1,v2,v3]:=by
 simp only [C_Table,FZ,CV,Bo,CD,Bc,Hh]
 exact⟨_,_,rfl,⟨_,rfl,h1⟩,⟨_,_,rfl,⟨_,rfl,h2⟩,⟨_,rfl,h3⟩⟩⟩
structure CJ where
 b:Int
 d:Int
 c:Int
 g:Int
 h:List Bm
 f:List Bm
def C_Arc:EJ CJ:=FZ (fun x=>(x.b,x.d,x.c,x.g,x.h,x.f)) (CV (Bo .i64) (CV (Bo .i64) (CV (Bo .i64) (CV (Bo .i64) (CV (Hh C_Table) (Hh C_Table))))))
theorem Cx{w:World}{S:Nat->Prop}{x:CJ}{vs:List Value}(h:C_Arc.rep w S x vs):∃v1 v2,vs=[.int .i64 x.b,.int .i64 x.d,.int .i64 x.c,.int .i64 x.g,v1,v2]∧AF C_Table w S x.h v1∧AF C_Table w S x.f v2:=by
 simp only [C_Arc,FZ,CV,Bo,CD,Bc,Hh]at h
 obtain⟨_,_,rfl,rfl,⟨_,_,rfl,rfl,⟨_,_,rfl,rfl,⟨_,_,rfl,rfl,⟨_,_,rfl,⟨v1,rfl,h1⟩,⟨v2,rfl,h2⟩⟩⟩⟩⟩⟩:=h;exact⟨v1,v2,rfl,h1,h2⟩
theorem Mc{w:World}{S:Nat->Prop}{x:CJ}{v1 v2:Value}(h1:AF C_Table w S x.h v1)(h2:AF C_Table w S x.f v2):C_Arc.rep w S x [.int .i64 x.b,.int .i64 x.d,.int .i64 x.c,.int .i64 x.g,v1,v2]:=by
 simp only [C_Arc,FZ,CV,Bo,CD,Bc,Hh]
 exact⟨_,_,rfl,rfl,⟨_,_,rfl,rfl,⟨_,_,rfl,rfl,⟨_,_,rfl,rfl,⟨_,_,rfl,⟨_,rfl,h1⟩,⟨_,rfl,h2⟩⟩⟩⟩⟩⟩
structure BL where
 f:ByteArray
 b:Int
 d:List DZ
 c:List CJ
 g:List Int
 h:Int
 i:Int
def C_Cell:EJ BL:=FZ (fun x=>(x.f,x.b,x.d,x.c,x.g,x.h,x.i)) (CV Bc (CV (Bo .i64) (CV (Hh C_Pin) (CV (Hh C_Arc) (CV (Hh (Bo .i64)) (CV (Bo .i64) (Bo .i64)))))))
theorem DU{w:World}{S:Nat->Prop}{x:BL}{vs:List Value}(h:C_Cell.rep w S x vs):∃v1 v2 v3,vs=[.string x.f,.int .i64 x.b,v1,v2,v3,.int .i64 x.h,.int .i64 x.i]∧AF C_Pin w S x.d v1∧AF C_Arc w S x.c v2∧AF (Bo .i64) w S x.g v3:=by
 simp only [C_Cell,FZ,CV,Bo,CD,Bc,Hh]at h
 obtain⟨_,_,rfl,rfl,⟨_,_,rfl,rfl,⟨_,_,rfl,⟨v1,rfl,h1⟩,⟨_,_,rfl,⟨v2,rfl,h2⟩,⟨_,_,rfl,⟨v3,rfl,h3⟩,⟨_,_,rfl,rfl,rfl⟩⟩⟩⟩⟩⟩:=h;exact⟨v1,v2,v3,rfl,h1,h2,h3⟩
theorem Hu{w:World}{S:Nat->Prop}{x:BL}{v1 v2 v3:Value}(h1:AF C_Pin w S x.d v1)(h2:AF C_Arc w S x.c v2)(h3:AF (Bo .i64) w S x.g v3):C_Cell.rep w S x [.string x.f,.int .i64 x.b,v1,v2,v3,.int .i64 x.h,.int .i64 x.i]:=by
 simp only [C_Cell,FZ,CV,Bo,CD,Bc,Hh]
 exact⟨_,_,rfl,rfl,⟨_,_,rfl,rfl,⟨_,_,rfl,⟨_,rfl,h1⟩,⟨_,_,rfl,⟨_,rfl,h2⟩,⟨_,_,rfl,⟨_,rfl,h3⟩,⟨_,_,rfl,rfl,rfl⟩⟩⟩⟩⟩⟩
structure BT where
 b:List BL
structure BI where
 f:ByteArray
 b:Int
 c:List Int
def C_Instance:EJ BI:=FZ (fun x=>(x.f,x.b,x.c)) (CV Bc (CV (Bo .i64) (Hh (Bo .i64))))
theorem Bz{w:World}{S:Nat->Prop}{x:BI}{vs:List Value}(h:C_Instance.rep w S x vs):∃v1,vs=[.string x.f,.int .i64 x.b,v1]∧AF (Bo .i64) w S x.c v1:=by
 simp only [C_Instance,FZ,CV,Bo,CD,Bc,Hh]at h
 obtain⟨_,_,rfl,rfl,⟨_,_,rfl,rfl,⟨v1,rfl,h1⟩⟩⟩:=h;exact⟨v1,rfl,h1⟩
theorem SR{w:World}{S:Nat->Prop}{x:BI}{v1:Value}(h1:AF (Bo .i64) w S x.c v1):C_Instance.rep w S x [.string x.f,.int .i64 x.b,v1]:=by
 simp only [C_Instance,FZ,CV,Bo,CD,Bc,Hh]
 exact⟨_,_,rfl,rfl,⟨_,_,rfl,rfl,⟨_,rfl,h1⟩⟩⟩
def JT(x y:BI):Prop:=x.f=y.f∧True∧II (fun _ _=>True) x.c y.c
instance:Tv C_Instance JT:=Tv.map (β:=BI) (c:=(CV Bc (CV (Bo .i64) (Hh (Bo .i64))))) (fun x=>(x.f,x.b,x.c)) (fun p=>⟨p.1,p.2.1,p.2.2⟩) (fun _=>rfl)
structure DK where
 f:ByteArray
 b:Int
 c:Int
def C_Port:EJ DK:=FZ (fun x=>(x.f,x.b,x.c)) (CV Bc (CV (Bo .i64) (Bo .i64)))
theorem FR{w:World}{S:Nat->Prop}{x:DK}{vs:List Value}(h:C_Port.rep w S x vs):vs=[.string x.f,.int .i64 x.b,.int .i64 x.c]:=by
 simp only [C_Port,FZ,CV,Bo,CD,Bc,Hh]at h
 obtain⟨_,_,rfl,rfl,⟨_,_,rfl,rfl,rfl⟩⟩:=h;exact rfl
theorem Ku{w:World}{S:Nat->Prop}{x:DK}:C_Port.rep w S x [.string x.f,.int .i64 x.b,.int .i64 x.c]:=by
 simp only [C_Port,FZ,CV,Bo,CD,Bc,Hh]
 exact⟨_,_,rfl,rfl,⟨_,_,rfl,rfl,rfl⟩⟩
instance:Es C_Port:=by unfold C_Port;infer_instance
def UZ(x y:DK):Prop:=x.f=y.f∧True∧True
instance:Tv C_Port UZ:=Tv.map (β:=DK) (c:=(CV Bc (CV (Bo .i64) (Bo .i64)))) (fun x=>(x.f,x.b,x.c)) (fun p=>⟨p.1,p.2.1,p.2.2⟩) (fun _=>rfl)
structure Ae where
 b:List BI
 c:List ByteArray
 d:List DK
structure CW where
 b:List Int
 f:List Int
 c:List Int
 d:List Int
def C_Wire:EJ CW:=FZ (fun x=>(x.b,x.f,x.c,x.d)) (CV (Hh (Bo .i64)) (CV (Hh (Bo .i64)) (CV (Hh (Bo .i64)) (Hh (Bo .i64)))))
theorem Dc{w:World}{S:Nat->Prop}{x:CW}{vs:List Value}(h:C_Wire.rep w S x vs):∃v1 v2 v3 v4,vs=[v1,v2,v3,v4]∧AF (Bo .i64) w S x.b v1∧AF (Bo .i64) w S x.f v2∧AF (Bo .i64) w S x.c v3∧AF (Bo .i64) w S x.d v4:=by
 simp only [C_Wire,FZ,CV,Bo,CD,Bc,Hh]at h
 obtain⟨_,_,rfl,⟨v1,rfl,h1⟩,⟨_,_,rfl,⟨v2,rfl,h2⟩,⟨_,_,rfl,⟨v3,rfl,h3⟩,⟨v4,rfl,h4⟩⟩⟩⟩:=h;exact⟨v1,v2,v3,v4,rfl,h1,h2,h3,h4⟩
theorem Pw{w:World}{S:Nat->Prop}{x:CW}{v1 v2 v3 v4:Value}(h1:AF (Bo .i64) w S x.b v1)(h2:AF (Bo .i64) w S x.f v2)(h3:AF (Bo .i64) w S x.c v3)(h4:AF (Bo .i64) w S x.d v4):C_Wire.rep w S x [v1,v2,v3,v4]:=by
 simp only [C_Wire,FZ,CV,Bo,CD,Bc,Hh]
 exact⟨_,_,rfl,⟨_,rfl,h1⟩,⟨_,_,rfl,⟨_,rfl,h2⟩,⟨_,_,rfl,⟨_,rfl,h3⟩,⟨_,rfl,h4⟩⟩⟩⟩
def Jm(x y:CW):Prop:=II (fun _ _=>True) x.b y.b∧II (fun _ _=>True) x.f y.f∧II (fun _ _=>True) x.c y.c∧II (fun _ _=>True) x.d y.d
instance:Tv C_Wire Jm:=Tv.map (β:=CW) (c:=(CV (Hh (Bo .i64)) (CV (Hh (Bo .i64)) (CV (Hh (Bo .i64)) (Hh (Bo .i64)))))) (fun x=>(x.b,x.f,x.c,x.d)) (fun p=>⟨p.1,p.2.1,p.2.2.1,p.2.2.2⟩) (fun _=>rfl)
structure AJ where
 d:BT
 b:Ae
 c:List CW
structure BF where
 c:Int
 b:Int
def C_Span:EJ BF:=FZ (fun x=>(x.c,x.b)) (CV (Bo .i64) (Bo .i64))
theorem Bp{w:World}{S:Nat->Prop}{x:BF}{vs:List Value}(h:C_Span.rep w S x vs):vs=[.int .i64 x.c,.int .i64 x.b]:=by
 simp only [C_Span,FZ,CV,Bo,CD,Bc,Hh]at h
 obtain⟨_,_,rfl,rfl,rfl⟩:=h;exact rfl
theorem JY{w:World}{S:Nat->Prop}{x:BF}:C_Span.rep w S x [.int .i64 x.c,.int .i64 x.b]:=by
 simp only [C_Span,FZ,CV,Bo,CD,Bc,Hh]
 exact⟨_,_,rfl,rfl,rfl⟩
instance:Es C_Span:=by unfold C_Span;infer_instance
structure Au where
 c:List Bool
 b:List BF
 f:List BF
structure BS where
 c:Int
 d:Int
 b:Int
structure Aj where
 c:Int
 b:BF
def C_Target:EJ Aj:=FZ (fun x=>(x.c,x.b)) (CV (Bo .i64) C_Span)
theorem Dr{w:World}{S:Nat->Prop}{x:Aj}{vs:List Value}(h:C_Target.rep w S x vs):vs=[.int .i64 x.c,.int .i64 x.b.c,.int .i64 x.b.b]:=by
 simp only [C_Target,FZ,CV,Bo,CD,Bc,Hh,C_Span]at h
 obtain⟨_,_,rfl,rfl,⟨_,_,rfl,rfl,rfl⟩⟩:=h;exact rfl
theorem KO{w:World}{S:Nat->Prop}{x:Aj}:C_Target.rep w S x [.int .i64 x.c,.int .i64 x.b.c,.int .i64 x.b.b]:=by
 simp only [C_Target,FZ,CV,Bo,CD,Bc,Hh,C_Span]
 exact⟨_,_,rfl,rfl,⟨_,_,rfl,rfl,rfl⟩⟩
instance:Es C_Target:=by unfold C_Target;infer_instance
structure BP where
 c:Int
 d:Int
 f:Int
 b:Int
def C_Check:EJ BP:=FZ (fun x=>(x.c,x.d,x.f,x.b)) (CV (Bo .i64) (CV (Bo .i64) (CV (Bo .i64) (Bo .i64))))
theorem DY{w:World}{S:Nat->Prop}{x:BP}{vs:List Value}(h:C_Check.rep w S x vs):vs=[.int .i64 x.c,.int .i64 x.d,.int .i64 x.f,.int .i64 x.b]:=by
 simp only [C_Check,FZ,CV,Bo,CD,Bc,Hh]at h
 obtain⟨_,_,rfl,rfl,⟨_,_,rfl,rfl,⟨_,_,rfl,rfl,rfl⟩⟩⟩:=h;exact rfl
theorem MK{w:World}{S:Nat->Prop}{x:BP}:C_Check.rep w S x [.int .i64 x.c,.int .i64 x.d,.int .i64 x.f,.int .i64 x.b]:=by
 simp only [C_Check,FZ,CV,Bo,CD,Bc,Hh]
 exact⟨_,_,rfl,rfl,⟨_,_,rfl,rfl,⟨_,_,rfl,rfl,rfl⟩⟩⟩
instance:Es C_Check:=by unfold C_Check;infer_instance
structure AA where
 c:List Int
 at_:Int
 b:Int
structure Ca where
 f:ByteArray
 b:Int
 c:Int
 d:Int
 g:Int
structure Bi where
 c:Int
 f:Int
 b:Int
 d:Bool
def C_place:EJ Bi:=FZ (fun x=>(x.c,x.f,x.b,x.d)) (CV (Bo .i64) (CV (Bo .i64) (CV (Bo .i64) CD)))
theorem Hx{w:World}{S:Nat->Prop}{x:Bi}{vs:List Value}(h:C_place.rep w S x vs):vs=[.int .i64 x.c,.int .i64 x.f,.int .i64 x.b,.bool x.d]:=by
 simp only [C_place,FZ,CV,Bo,CD,Bc,Hh]at h
 obtain⟨_,_,rfl,rfl,⟨_,_,rfl,rfl,⟨_,_,rfl,rfl,rfl⟩⟩⟩:=h;exact rfl
theorem SK{w:World}{S:Nat->Prop}{x:Bi}:C_place.rep w S x [.int .i64 x.c,.int .i64 x.f,.int .i64 x.b,.bool x.d]:=by
 simp only [C_place,FZ,CV,Bo,CD,Bc,Hh]
 exact⟨_,_,rfl,rfl,⟨_,_,rfl,rfl,⟨_,_,rfl,rfl,rfl⟩⟩⟩
instance:Es C_place:=by unfold C_place;infer_instance
structure Ad where
 d:Int
 c:Int
 b:Int
 f:Int
def C_Link:EJ Ad:=FZ (fun x=>(x.d,x.c,x.b,x.f)) (CV (Bo .i64) (CV (Bo .i64) (CV (Bo .i64) (Bo .i64))))
theorem Fp{w:World}{S:Nat->Prop}{x:Ad}{vs:List Value}(h:C_Link.rep w S x vs):vs=[.int .i64 x.d,.int .i64 x.c,.int .i64 x.b,.int .i64 x.f]:=by
 simp only [C_Link,FZ,CV,Bo,CD,Bc,Hh]at h
 obtain⟨_,_,rfl,rfl,⟨_,_,rfl,rfl,⟨_,_,rfl,rfl,rfl⟩⟩⟩:=h;exact rfl
theorem QP{w:World}{S:Nat->Prop}{x:Ad}:C_Link.rep w S x [.int .i64 x.d,.int .i64 x.c,.int .i64 x.b,.int .i64 x.f]:=by
 simp only [C_Link,FZ,CV,Bo,CD,Bc,Hh]
 exact⟨_,_,rfl,rfl,⟨_,_,rfl,rfl,⟨_,_,rfl,rfl,rfl⟩⟩⟩
instance:Es C_Link:=by unfold C_Link;infer_instance
structure Cu where
 b:AJ
 c:List Bi
 d:List Ad
 f:List Int
 g:List Unit
 h:List Int
structure CB where
 c:Int
 f:Int
 b:Int
 d:Bool
def C_l05Place:EJ CB:=FZ (fun x=>(x.c,x.f,x.b,x.d)) (CV (Bo .i64) (CV (Bo .i64) (CV (Bo .i64) CD)))
theorem Dh{w:World}{S:Nat->Prop}{x:CB}{vs:List Value}(h:C_l05Place.rep w S x vs):vs=[.int .i64 x.c,.int .i64 x.f,.int .i64 x.b,.bool x.d]:=by
 simp only [C_l05Place,FZ,CV,Bo,CD,Bc,Hh]at h
 obtain⟨_,_,rfl,rfl,⟨_,_,rfl,rfl,⟨_,_,rfl,rfl,rfl⟩⟩⟩:=h;exact rfl
theorem ON{w:World}{S:Nat->Prop}{x:CB}:C_l05Place.rep w S x [.int .i64 x.c,.int .i64 x.f,.int .i64 x.b,.bool x.d]:=by
 simp only [C_l05Place,FZ,CV,Bo,CD,Bc,Hh]
 exact⟨_,_,rfl,rfl,⟨_,_,rfl,rfl,⟨_,_,rfl,rfl,rfl⟩⟩⟩
instance:Es C_l05Place:=by unfold C_l05Place;infer_instance
structure BW where
 c:Int
 b:BF
 f:BF
def C_Source:EJ BW:=FZ (fun x=>(x.c,x.b,x.f)) (CV (Bo .i64) (CV C_Span C_Span))
theorem Dq{w:World}{S:Nat->Prop}{x:BW}{vs:List Value}(h:C_Source.rep w S x vs):vs=[.int .i64 x.c,.int .i64 x.b.c,.int .i64 x.b.b,.int .i64 x.f.c,.int .i64 x.f.b]:=by
 simp only [C_Source,FZ,CV,Bo,CD,Bc,Hh,C_Span,C_Span]at h
 obtain⟨_,_,rfl,rfl,⟨_,_,rfl,⟨_,_,rfl,rfl,rfl⟩,⟨_,_,rfl,rfl,rfl⟩⟩⟩:=h;exact rfl
theorem In{w:World}{S:Nat->Prop}{x:BW}:C_Source.rep w S x [.int .i64 x.c,.int .i64 x.b.c,.int .i64 x.b.b,.int .i64 x.f.c,.int .i64 x.f.b]:=by
 simp only [C_Source,FZ,CV,Bo,CD,Bc,Hh,C_Span,C_Span]
 exact⟨_,_,rfl,rfl,⟨_,_,rfl,⟨_,_,rfl,rfl,rfl⟩,⟨_,_,rfl,rfl,rfl⟩⟩⟩
instance:Es C_Source:=by unfold C_Source;infer_instance
structure Dn where
 c:Int
 b:Int
def C_weight:EJ Dn:=FZ (fun x=>(x.c,x.b)) (CV (Bo .i64) (Bo .i64))
theorem OH{w:World}{S:Nat->Prop}{x:Dn}{vs:List Value}(h:C_weight.rep w S x vs):vs=[.int .i64 x.c,.int .i64 x.b]:=by
 simp only [C_weight,FZ,CV,Bo,CD,Bc,Hh]at h
 obtain⟨_,_,rfl,rfl,rfl⟩:=h;exact rfl
theorem NW{w:World}{S:Nat->Prop}{x:Dn}:C_weight.rep w S x [.int .i64 x.c,.int .i64 x.b]:=by
 simp only [C_weight,FZ,CV,Bo,CD,Bc,Hh]
 exact⟨_,_,rfl,rfl,rfl⟩
instance:Es C_weight:=by unfold C_weight;infer_instance
structure ET where
 e0:Int
 e1:Int
def C_A2_Int:EJ ET:=FZ (fun x=>(x.e0,x.e1)) (CV (Bo .i64) (Bo .i64))
theorem SU{w:World}{S:Nat->Prop}{x:ET}{vs:List Value}(h:C_A2_Int.rep w S x vs):vs=[.int .i64 x.e0,.int .i64 x.e1]:=by
 simp only [C_A2_Int,FZ,CV,Bo,CD,Bc,Hh]at h
 obtain⟨_,_,rfl,rfl,rfl⟩:=h;exact rfl
theorem Ew{w:World}{S:Nat->Prop}{x:ET}:C_A2_Int.rep w S x [.int .i64 x.e0,.int .i64 x.e1]:=by
 simp only [C_A2_Int,FZ,CV,Bo,CD,Bc,Hh]
 exact⟨_,_,rfl,rfl,rfl⟩
instance:Es C_A2_Int:=by unfold C_A2_Int;infer_instance
def oM(k:IntKind)(x:Int):Prop:=k.min<=x∧x<=k.max
theorem oM.i64{x:Int}(h:oM .i64 x):-9223372036854775808<=x∧x<=9223372036854775807:=h
end Go.Eng
