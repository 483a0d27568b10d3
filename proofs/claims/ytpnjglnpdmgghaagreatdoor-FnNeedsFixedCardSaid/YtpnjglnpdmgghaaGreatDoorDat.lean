/- The data of the program, as plain Lean structures, and their cells; no condition. -/
import Derived.Test.YtpnjglnpdmgghaaGreatDoorEng
set_option linter.all false
namespace Go.Eng
open Go Go.RowKit
structure EF where
 d:ByteArray
 b:Int
 f:Int
 c:Bool
def C_Pin:FC EF:=Gj (fun x=>(x.d,x.b,x.f,x.c)) (DL Bw (DL (CR .i64) (DL (CR .i64) Bx)))
theorem GS{w:World}{S:Nat->Prop}{x:EF}{vs:List Value}(h:C_Pin.rep w S x vs):vs=[.string x.d,.int .i64 x.b,.int .i64 x.f,.bool x.c]:=by
 simp only [C_Pin,Gj,DL,CR,Bx,Bw,HU]at h
 obtain⟨_,_,rfl,rfl,⟨_,_,rfl,rfl,⟨_,_,rfl,rfl,rfl⟩⟩⟩:=h;exact rfl
theorem OY{w:World}{S:Nat->Prop}{x:EF}:C_Pin.rep w S x [.string x.d,.int .i64 x.b,.int .i64 x.f,.bool x.c]:=by
 simp only [C_Pin,Gj,DL,CR,Bx,Bw,HU]
 exact⟨_,_,rfl,rfl,⟨_,_,rfl,rfl,⟨_,_,rfl,rfl,rfl⟩⟩⟩
instance:Fy C_Pin:=by unfold C_Pin;infer_instance
structure Cc where
 d:List Int
 c:List Int
 b:List Int
def C_Table:FC Cc:=Gj (fun x=>(x.d,x.c,x.b)) (DL (HU (CR .i64)) (DL (HU (CR .i64)) (HU (CR .i64))))
theorem IK{w:World}{S:Nat->Prop}{x:Cc}{vs:List Value}(h:C_Table.rep w S x vs):∃v1 v2 v3,vs=[v1,v2,v3]∧Ae (CR .i64) w S x.d v1∧Ae (CR .i64) w S x.c v2∧Ae (CR .i64) w S x.b v3:=by
 simp only [C_Table,Gj,DL,CR,Bx,Bw,HU]at h
 obtain⟨_,_,rfl,⟨v1,rfl,h1⟩,⟨_,_,rfl,⟨v2,rfl,h2⟩,⟨v3,rfl,h3⟩⟩⟩:=h;exact⟨v1,v2,v3,rfl,h1,h2,h3⟩
theorem TA{w:World}{S:Nat->Prop}{x:Cc}{v1 v2 v3:Value}(h1:Ae (CR .i64) w S x.d v1)(h2:Ae (CR .i64) w S x.c v2)(h3:Ae (CR .i64) w S x.b v3):C_Table.rep w S x [v1,v2,v3]:=by
 simp only [C_Table,Gj,DL,CR,Bx,Bw,HU]
 exact⟨_,_,rfl,⟨_,rfl,h1⟩,⟨_,_,rfl,⟨_,rfl,h2⟩,⟨_,rfl,h3⟩⟩⟩
structure DW where
 c:Int
 d:Int
 b:Int
 g:Int
 h:List Cc
 f:List Cc
def C_Arc:FC DW:=Gj (fun x=>(x.c,x.d,x.b,x.g,x.h,x.f)) (DL (CR .i64) (DL (CR .i64) (DL (CR .i64) (DL (CR .i64) (DL (HU C_Table) (HU C_Table))))))
theorem FM{w:World}{S:Nat->Prop}{x:DW}{vs:List Value}(h:C_Arc.rep w S x vs):∃v1 v2,vs=[.int .i64 x.c,.int .i64 x.d,.int .i64 x.b,.int .i64 x.g,v1,v2]∧Ae C_Table w S x.h v1∧Ae C_Table w S x.f v2:=by
 simp only [C_Arc,Gj,DL,CR,Bx,Bw,HU]at h
 obtain⟨_,_,rfl,rfl,⟨_,_,rfl,rfl,⟨_,_,rfl,rfl,⟨_,_,rfl,rfl,⟨_,_,rfl,⟨v1,rfl,h1⟩,⟨v2,rfl,h2⟩⟩⟩⟩⟩⟩:=h;exact⟨v1,v2,rfl,h1,h2⟩
theorem OF{w:World}{S:Nat->Prop}{x:DW}{v1 v2:Value}(h1:Ae C_Table w S x.h v1)(h2:Ae C_Table w S x.f v2):C_Arc.rep w S x [.int .i64 x.c,.int .i64 x.d,.int .i64 x.b,.int .i64 x.g,v1,v2]:=by
 simp only [C_Arc,Gj,DL,CR,Bx,Bw,HU]
 exact⟨_,_,rfl,rfl,⟨_,_,rfl,rfl,⟨_,_,rfl,rfl,⟨_,_,rfl,rfl,⟨_,_,rfl,⟨_,rfl,h1⟩,⟨_,rfl,h2⟩⟩⟩⟩⟩⟩
structure Bv where
 d:ByteArray
 c:Int
 b:List EF
 f:List DW
 g:List Int
 h:Int
 i:Int
def C_Cell:FC Bv:=Gj (fun x=>(x.d,x.c,x.b,x.f,x.g,x.h,x.i)) (DL Bw (DL (CR .i64) (DL (HU C_Pin) (DL (HU C_Arc) (DL (HU (CR .i64)) (DL (CR .i64) (CR .i64)))))))
theorem Fk{w:World}{S:Nat->Prop}{x:Bv}{vs:List Value}(h:C_Cell.rep w S x vs):∃v1 v2 v3,vs=[.string x.d,.int .i64 x.c,v1,v2,v3,.int .i64 x.h,.int .i64 x.i]∧Ae C_Pin w S x.b v1∧Ae C_Arc w S x.f v2∧Ae (CR .i64) w S x.g v3:=by
 simp only [C_Cell,Gj,DL,CR,Bx,Bw,HU]at h
 obtain⟨_,_,rfl,rfl,⟨_,_,rfl,rfl,⟨_,_,rfl,⟨v1,rfl,h1⟩,⟨_,_,rfl,⟨v2,rfl,h2⟩,⟨_,_,rfl,⟨v3,rfl,h3⟩,⟨_,_,rfl,rfl,rfl⟩⟩⟩⟩⟩⟩:=h;exact⟨v1,v2,v3,rfl,h1,h2,h3⟩
theorem Ir{w:World}{S:Nat->Prop}{x:Bv}{v1 v2 v3:Value}(h1:Ae C_Pin w S x.b v1)(h2:Ae C_Arc w S x.f v2)(h3:Ae (CR .i64) w S x.g v3):C_Cell.rep w S x [.string x.d,.int .i64 x.c,v1,v2,v3,.int .i64 x.h,.int .i64 x.i]:=by
 simp only [C_Cell,Gj,DL,CR,Bx,Bw,HU]
 exact⟨_,_,rfl,rfl,⟨_,_,rfl,rfl,⟨_,_,rfl,⟨_,rfl,h1⟩,⟨_,_,rfl,⟨_,rfl,h2⟩,⟨_,_,rfl,⟨_,rfl,h3⟩,⟨_,_,rfl,rfl,rfl⟩⟩⟩⟩⟩⟩
structure Br where
 b:List Bv
structure Bq where
 d:ByteArray
 c:Int
 b:List Int
def C_Instance:FC Bq:=Gj (fun x=>(x.d,x.c,x.b)) (DL Bw (DL (CR .i64) (HU (CR .i64))))
theorem DY{w:World}{S:Nat->Prop}{x:Bq}{vs:List Value}(h:C_Instance.rep w S x vs):∃v1,vs=[.string x.d,.int .i64 x.c,v1]∧Ae (CR .i64) w S x.b v1:=by
 simp only [C_Instance,Gj,DL,CR,Bx,Bw,HU]at h
 obtain⟨_,_,rfl,rfl,⟨_,_,rfl,rfl,⟨v1,rfl,h1⟩⟩⟩:=h;exact⟨v1,rfl,h1⟩
theorem Ti{w:World}{S:Nat->Prop}{x:Bq}{v1:Value}(h1:Ae (CR .i64) w S x.b v1):C_Instance.rep w S x [.string x.d,.int .i64 x.c,v1]:=by
 simp only [C_Instance,Gj,DL,CR,Bx,Bw,HU]
 exact⟨_,_,rfl,rfl,⟨_,_,rfl,rfl,⟨_,rfl,h1⟩⟩⟩
def KM(x y:Bq):Prop:=x.d=y.d∧True∧JJ (fun _ _=>True) x.b y.b
instance:VK C_Instance KM:=VK.map (β:=Bq) (c:=(DL Bw (DL (CR .i64) (HU (CR .i64))))) (fun x=>(x.d,x.c,x.b)) (fun p=>⟨p.1,p.2.1,p.2.2⟩) (fun _=>rfl)
structure Dr where
 d:ByteArray
 b:Int
 c:Int
def C_Port:FC Dr:=Gj (fun x=>(x.d,x.b,x.c)) (DL Bw (DL (CR .i64) (CR .i64)))
theorem GK{w:World}{S:Nat->Prop}{x:Dr}{vs:List Value}(h:C_Port.rep w S x vs):vs=[.string x.d,.int .i64 x.b,.int .i64 x.c]:=by
 simp only [C_Port,Gj,DL,CR,Bx,Bw,HU]at h
 obtain⟨_,_,rfl,rfl,⟨_,_,rfl,rfl,rfl⟩⟩:=h;exact rfl
theorem MA{w:World}{S:Nat->Prop}{x:Dr}:C_Port.rep w S x [.string x.d,.int .i64 x.b,.int .i64 x.c]:=by
 simp only [C_Port,Gj,DL,CR,Bx,Bw,HU]
 exact⟨_,_,rfl,rfl,⟨_,_,rfl,rfl,rfl⟩⟩
instance:Fy C_Port:=by unfold C_Port;infer_instance
def Vl(x y:Dr):Prop:=x.d=y.d∧True∧True
instance:VK C_Port Vl:=VK.map (β:=Dr) (c:=(DL Bw (DL (CR .i64) (CR .i64)))) (fun x=>(x.d,x.b,x.c)) (fun p=>⟨p.1,p.2.1,p.2.2⟩) (fun _=>rfl)
structure At where
 c:List Bq
 b:List ByteArray
 d:List Dr
structure DD where
 b:List Int
 d:List Int
 f:List Int
 c:List Int
def C_Wire:FC DD:=Gj (fun x=>(x.b,x.d,x.f,x.c)) (DL (HU (CR .i64)) (DL (HU (CR .i64)) (DL (HU (CR .i64)) (HU (CR .i64)))))
theorem ER{w:World}{S:Nat->Prop}{x:DD}{vs:List Value}(h:C_Wire.rep w S x vs):∃v1 v2 v3 v4,vs=[v1,v2,v3,v4]∧Ae (CR .i64) w S x.b v1∧Ae (CR .i64) w S x.d v2∧Ae (CR .i64) w S x.f v3∧Ae (CR .i64) w S x.c v4:=by
 simp only [C_Wire,Gj,DL,CR,Bx,Bw,HU]at h
 obtain⟨_,_,rfl,⟨v1,rfl,h1⟩,⟨_,_,rfl,⟨v2,rfl,h2⟩,⟨_,_,rfl,⟨v3,rfl,h3⟩,⟨v4,rfl,h4⟩⟩⟩⟩:=h;exact⟨v1,v2,v3,v4,rfl,h1,h2,h3,h4⟩
theorem RM{w:World}{S:Nat->Prop}{x:DD}{v1 v2 v3 v4:Value}(h1:Ae (CR .i64) w S x.b v1)(h2:Ae (CR .i64) w S x.d v2)(h3:Ae (CR .i64) w S x.f v3)(h4:Ae (CR .i64) w S x.c v4):C_Wire.rep w S x [v1,v2,v3,v4]:=by
 simp only [C_Wire,Gj,DL,CR,Bx,Bw,HU]
 exact⟨_,_,rfl,⟨_,rfl,h1⟩,⟨_,_,rfl,⟨_,rfl,h2⟩,⟨_,_,rfl,⟨_,rfl,h3⟩,⟨_,rfl,h4⟩⟩⟩⟩
def Kr(x y:DD):Prop:=JJ (fun _ _=>True) x.b y.b∧JJ (fun _ _=>True) x.d y.d∧JJ (fun _ _=>True) x.f y.f∧JJ (fun _ _=>True) x.c y.c
instance:VK C_Wire Kr:=VK.map (β:=DD) (c:=(DL (HU (CR .i64)) (DL (HU (CR .i64)) (DL (HU (CR .i64)) (HU (CR .i64)))))) (fun x=>(x.b,x.d,x.f,x.c)) (fun p=>⟨p.1,p.2.1,p.2.2.1,p.2.2.2⟩) (fun _=>rfl)
structure AV where
 d:Br
 b:At
 c:List DD
structure BG where
 d:ByteArray
 b:Int
 c:Int
 f:Int
 g:Int
structure Ax where
 b:Int
 c:Int
def C_Span:FC Ax:=Gj (fun x=>(x.b,x.c)) (DL (CR .i64) (CR .i64))
theorem Cr{w:World}{S:Nat->Prop}{x:Ax}{vs:List Value}(h:C_Span.rep w S x vs):vs=[.int .i64 x.b,.int .i64 x.c]:=by
 simp only [C_Span,Gj,DL,CR,Bx,Bw,HU]at h
 obtain⟨_,_,rfl,rfl,rfl⟩:=h;exact rfl
theorem Ho{w:World}{S:Nat->Prop}{x:Ax}:C_Span.rep w S x [.int .i64 x.b,.int .i64 x.c]:=by
 simp only [C_Span,Gj,DL,CR,Bx,Bw,HU]
 exact⟨_,_,rfl,rfl,rfl⟩
instance:Fy C_Span:=by unfold C_Span;infer_instance
structure BW where
 c:List Bool
 b:List Ax
 f:List Ax
structure CY where
 c:List Bool
 b:List Ax
structure Af where
 c:Int
 b:Ax
def C_Target:FC Af:=Gj (fun x=>(x.c,x.b)) (DL (CR .i64) C_Span)
theorem EK{w:World}{S:Nat->Prop}{x:Af}{vs:List Value}(h:C_Target.rep w S x vs):vs=[.int .i64 x.c,.int .i64 x.b.b,.int .i64 x.b.c]:=by
 simp only [C_Target,Gj,DL,CR,Bx,Bw,HU,C_Span]at h
 obtain⟨_,_,rfl,rfl,⟨_,_,rfl,rfl,rfl⟩⟩:=h;exact rfl
theorem La{w:World}{S:Nat->Prop}{x:Af}:C_Target.rep w S x [.int .i64 x.c,.int .i64 x.b.b,.int .i64 x.b.c]:=by
 simp only [C_Target,Gj,DL,CR,Bx,Bw,HU,C_Span]
 exact⟨_,_,rfl,rfl,⟨_,_,rfl,rfl,rfl⟩⟩
instance:Fy C_Target:=by unfold C_Target;infer_instance
structure CP where
 c:Int
 f:Int
 b:Int
 d:Bool
def C_place:FC CP:=Gj (fun x=>(x.c,x.f,x.b,x.d)) (DL (CR .i64) (DL (CR .i64) (DL (CR .i64) Bx)))
theorem IH{w:World}{S:Nat->Prop}{x:CP}{vs:List Value}(h:C_place.rep w S x vs):vs=[.int .i64 x.c,.int .i64 x.f,.int .i64 x.b,.bool x.d]:=by
 simp only [C_place,Gj,DL,CR,Bx,Bw,HU]at h
 obtain⟨_,_,rfl,rfl,⟨_,_,rfl,rfl,⟨_,_,rfl,rfl,rfl⟩⟩⟩:=h;exact rfl
theorem Ta{w:World}{S:Nat->Prop}{x:CP}:C_place.rep w S x [.int .i64 x.c,.int .i64 x.f,.int .i64 x.b,.bool x.d]:=by
 simp only [C_place,Gj,DL,CR,Bx,Bw,HU]
 exact⟨_,_,rfl,rfl,⟨_,_,rfl,rfl,⟨_,_,rfl,rfl,rfl⟩⟩⟩
instance:Fy C_place:=by unfold C_place;infer_instance
structure Al where
 d:Int
 b:Int
 c:Int
 f:Int
def C_Link:FC Al:=Gj (fun x=>(x.d,x.b,x.c,x.f)) (DL (CR .i64) (DL (CR .i64) (DL (CR .i64) (CR .i64))))
theorem Dz{w:World}{S:Nat->Prop}{x:Al}{vs:List Value}(h:C_Link.rep w S x vs):vs=[.int .i64 x.d,.int .i64 x.b,.int .i64 x.c,.int .i64 x.f]:=by
 simp only [C_Link,Gj,DL,CR,Bx,Bw,HU]at h
 obtain⟨_,_,rfl,rfl,⟨_,_,rfl,rfl,⟨_,_,rfl,rfl,rfl⟩⟩⟩:=h;exact rfl
theorem Rk{w:World}{S:Nat->Prop}{x:Al}:C_Link.rep w S x [.int .i64 x.d,.int .i64 x.b,.int .i64 x.c,.int .i64 x.f]:=by
 simp only [C_Link,Gj,DL,CR,Bx,Bw,HU]
 exact⟨_,_,rfl,rfl,⟨_,_,rfl,rfl,⟨_,_,rfl,rfl,rfl⟩⟩⟩
instance:Fy C_Link:=by unfold C_Link;infer_instance
structure Cd where
 c:AV
 d:List CP
 b:List Al
 g:List Int
 f:List (List Int)
 h:List Int
structure DK where
 b:Cd
 c:List Bool
structure AA where
 d:List Int
 c:Int
 b:Int
structure Ca where
 c:Int
 f:Int
 b:Int
 d:Bool
def C_l05Place:FC Ca:=Gj (fun x=>(x.c,x.f,x.b,x.d)) (DL (CR .i64) (DL (CR .i64) (DL (CR .i64) Bx)))
theorem De{w:World}{S:Nat->Prop}{x:Ca}{vs:List Value}(h:C_l05Place.rep w S x vs):vs=[.int .i64 x.c,.int .i64 x.f,.int .i64 x.b,.bool x.d]:=by
 simp only [C_l05Place,Gj,DL,CR,Bx,Bw,HU]at h
 obtain⟨_,_,rfl,rfl,⟨_,_,rfl,rfl,⟨_,_,rfl,rfl,rfl⟩⟩⟩:=h;exact rfl
theorem Pg{w:World}{S:Nat->Prop}{x:Ca}:C_l05Place.rep w S x [.int .i64 x.c,.int .i64 x.f,.int .i64 x.b,.bool x.d]:=by
 simp only [C_l05Place,Gj,DL,CR,Bx,Bw,HU]
 exact⟨_,_,rfl,rfl,⟨_,_,rfl,rfl,⟨_,_,rfl,rfl,rfl⟩⟩⟩
instance:Fy C_l05Place:=by unfold C_l05Place;infer_instance
structure Eg where
 e0:Int
 e1:Int
def C_A2_Int:FC Eg:=Gj (fun x=>(x.e0,x.e1)) (DL (CR .i64) (CR .i64))
theorem Ts{w:World}{S:Nat->Prop}{x:Eg}{vs:List Value}(h:C_A2_Int.rep w S x vs):vs=[.int .i64 x.e0,.int .i64 x.e1]:=by
 simp only [C_A2_Int,Gj,DL,CR,Bx,Bw,HU]at h
 obtain⟨_,_,rfl,rfl,rfl⟩:=h;exact rfl
theorem Fi{w:World}{S:Nat->Prop}{x:Eg}:C_A2_Int.rep w S x [.int .i64 x.e0,.int .i64 x.e1]:=by
 simp only [C_A2_Int,Gj,DL,CR,Bx,Bw,HU]
 exact⟨_,_,rfl,rfl,rfl⟩
instance:Fy C_A2_Int:=by unfold C_A2_Int;infer_instance
structure Bt where
 c:Int
 b:Ax
 f:Ax
def C_Source:FC Bt:=Gj (fun x=>(x.c,x.b,x.f)) (DL (CR .i64) (DL C_Span C_Span))
theorem Ea{w:World}{S:Nat->Prop}{x:Bt}{vs:List Value}(h:C_Source.rep w S x vs):vs=[.int .i64 x.c,.int .i64 x.b.b,.int .i64 x.b.c,.int .i64 x.f.b,.int .i64 x.f.c]:=by
 simp only [C_Source,Gj,DL,CR,Bx,Bw,HU,C_Span,C_Span]at h
 obtain⟨_,_,rfl,rfl,⟨_,_,rfl,⟨_,_,rfl,rfl,rfl⟩,⟨_,_,rfl,rfl,rfl⟩⟩⟩:=h;exact rfl
theorem Jn{w:World}{S:Nat->Prop}{x:Bt}:C_Source.rep w S x [.int .i64 x.c,.int .i64 x.b.b,.int .i64 x.b.c,.int .i64 x.f.b,.int .i64 x.f.c]:=by
 simp only [C_Source,Gj,DL,CR,Bx,Bw,HU,C_Span,C_Span]
 exact⟨_,_,rfl,rfl,⟨_,_,rfl,⟨_,_,rfl,rfl,rfl⟩,⟨_,_,rfl,rfl,rfl⟩⟩⟩
instance:Fy C_Source:=by unfold C_Source;infer_instance
structure EX where
 c:Int
 b:Int
def C_weight:FC EX:=Gj (fun x=>(x.c,x.b)) (DL (CR .i64) (CR .i64))
theorem PW{w:World}{S:Nat->Prop}{x:EX}{vs:List Value}(h:C_weight.rep w S x vs):vs=[.int .i64 x.c,.int .i64 x.b]:=by
 simp only [C_weight,Gj,DL,CR,Bx,Bw,HU]at h
 obtain⟨_,_,rfl,rfl,rfl⟩:=h;exact rfl
theorem Ov{w:World}{S:Nat->Prop}{x:EX}:C_weight.rep w S x [.int .i64 x.c,.int .i64 x.b]:=by
 simp only [C_weight,Gj,DL,CR,Bx,Bw,HU]
 exact⟨_,_,rfl,rfl,rfl⟩
instance:Fy C_weight:=by unfold C_weight;infer_instance
def sP(k:IntKind)(x:Int):Prop:=k.min<=x∧x<=k.max
theorem sP.i64{x:Int}(h:sP .i64 x):-9223372036854775808<=x∧x<=9223372036854775807:=h
end Go.Eng
