/- The data of the program, as plain Lean structures, and their cells; no condition. -/
import Derived.Test.YtkjldnhpnbhogaaGreatDoorEng
set_option linter.all false
namespace Go.Eng
open Go Go.RowKit
structure Bv where
 Name:ByteArray
 Dir:Int
 Cap:Int
 Clock:Bool
def C_Pin:Co Bv:=Dl (fun x=>(x.Name,x.Dir,x.Cap,x.Clock)) (Bc Az (Bc (AG .i64) (Bc (AG .i64) BK)))
theorem Cb{w:World}{S:Nat->Prop}{x:Bv}{vs:List Value}(h:C_Pin.rep w S x vs):vs=[.string x.Name,.int .i64 x.Dir,.int .i64 x.Cap,.bool x.Clock]:=by
 simp only [C_Pin,Dl,Bc,AG,BK,Az,FQ]at h
 obtain⟨_,_,rfl,rfl,⟨_,_,rfl,rfl,⟨_,_,rfl,rfl,rfl⟩⟩⟩:=h;exact rfl
theorem JU{w:World}{S:Nat->Prop}{x:Bv}:C_Pin.rep w S x [.string x.Name,.int .i64 x.Dir,.int .i64 x.Cap,.bool x.Clock]:=by
 simp only [C_Pin,Dl,Bc,AG,BK,Az,FQ]
 exact⟨_,_,rfl,rfl,⟨_,_,rfl,rfl,⟨_,_,rfl,rfl,rfl⟩⟩⟩
instance:Cx C_Pin:=by unfold C_Pin;infer_instance
structure BP where
 Slews:List Int
 Loads:List Int
 Values:List Int
def C_Table:Co BP:=Dl (fun x=>(x.Slews,x.Loads,x.Values)) (Bc (FQ (AG .i64)) (Bc (FQ (AG .i64)) (FQ (AG .i64))))
theorem GN{w:World}{S:Nat->Prop}{x:BP}{vs:List Value}(h:C_Table.rep w S x vs):∃v1 v2 v3,vs=[v1,v2,v3]∧AE (AG .i64) w S x.Slews v1∧AE (AG .i64) w S x.Loads v2∧AE (AG .i64) w S x.Values v3:=by
 simp only [C_Table,Dl,Bc,AG,BK,Az,FQ]at h
 obtain⟨_,_,rfl,⟨v1,rfl,h1⟩,⟨_,_,rfl,⟨v2,rfl,h2⟩,⟨v3,rfl,h3⟩⟩⟩:=h;exact⟨v1,v2,v3,rfl,h1,h2,h3⟩
theorem NQ{w:World}{S:Nat->Prop}{x:BP}{v1 v2 v3:Value}(h1:AE (AG .i64) w S x.Slews v1)(h2:AE (AG .i64) w S x.Loads v2)(h3:AE (AG .i64) w S x.Values v3):C_Table.rep w S x [v1,v2,v3]:=by
 simp only [C_Table,Dl,Bc,AG,BK,Az,FQ]
 exact⟨_,_,rfl,⟨_,rfl,h1⟩,⟨_,_,rfl,⟨_,rfl,h2⟩,⟨_,rfl,h3⟩⟩⟩
structure Be where
 Kind:Int
 From:Int
 To:Int
 Sense:Int
 Delay:List BP
 Slew:List BP
def C_Arc:Co Be:=Dl (fun x=>(x.Kind,x.From,x.To,x.Sense,x.Delay,x.Slew)) (Bc (AG .i64) (Bc (AG .i64) (Bc (AG .i64) (Bc (AG .i64) (Bc (FQ C_Table) (FQ C_Table))))))
theorem Ci{w:World}{S:Nat->Prop}{x:Be}{vs:List Value}(h:C_Arc.rep w S x vs):∃v1 v2,vs=[.int .i64 x.Kind,.int .i64 x.From,.int .i64 x.To,.int .i64 x.Sense,v1,v2]∧AE C_Table w S x.Delay v1∧AE C_Table w S x.Slew v2:=by
 simp only [C_Arc,Dl,Bc,AG,BK,Az,FQ]at h
 obtain⟨_,_,rfl,rfl,⟨_,_,rfl,rfl,⟨_,_,rfl,rfl,⟨_,_,rfl,rfl,⟨_,_,rfl,⟨v1,rfl,h1⟩,⟨v2,rfl,h2⟩⟩⟩⟩⟩⟩:=h;exact⟨v1,v2,rfl,h1,h2⟩
theorem Jy{w:World}{S:Nat->Prop}{x:Be}{v1 v2:Value}(h1:AE C_Table w S x.Delay v1)(h2:AE C_Table w S x.Slew v2):C_Arc.rep w S x [.int .i64 x.Kind,.int .i64 x.From,.int .i64 x.To,.int .i64 x.Sense,v1,v2]:=by
 simp only [C_Arc,Dl,Bc,AG,BK,Az,FQ]
 exact⟨_,_,rfl,rfl,⟨_,_,rfl,rfl,⟨_,_,rfl,rfl,⟨_,_,rfl,rfl,⟨_,_,rfl,⟨_,rfl,h1⟩,⟨_,rfl,h2⟩⟩⟩⟩⟩⟩
structure As where
 Name:ByteArray
 Kind:Int
 Pins:List Bv
 Arcs:List Be
 Truth:List Int
 Leak:Int
 Energy:Int
def C_Cell:Co As:=Dl (fun x=>(x.Name,x.Kind,x.Pins,x.Arcs,x.Truth,x.Leak,x.Energy)) (Bc Az (Bc (AG .i64) (Bc (FQ C_Pin) (Bc (FQ C_Arc) (Bc (FQ (AG .i64)) (Bc (AG .i64) (AG .i64)))))))
theorem DB{w:World}{S:Nat->Prop}{x:As}{vs:List Value}(h:C_Cell.rep w S x vs):∃v1 v2 v3,vs=[.string x.Name,.int .i64 x.Kind,v1,v2,v3,.int .i64 x.Leak,.int .i64 x.Energy]∧AE C_Pin w S x.Pins v1∧AE C_Arc w S x.Arcs v2∧AE (AG .i64) w S x.Truth v3:=by
 simp only [C_Cell,Dl,Bc,AG,BK,Az,FQ]at h
 obtain⟨_,_,rfl,rfl,⟨_,_,rfl,rfl,⟨_,_,rfl,⟨v1,rfl,h1⟩,⟨_,_,rfl,⟨v2,rfl,h2⟩,⟨_,_,rfl,⟨v3,rfl,h3⟩,⟨_,_,rfl,rfl,rfl⟩⟩⟩⟩⟩⟩:=h;exact⟨v1,v2,v3,rfl,h1,h2,h3⟩
theorem FC{w:World}{S:Nat->Prop}{x:As}{v1 v2 v3:Value}(h1:AE C_Pin w S x.Pins v1)(h2:AE C_Arc w S x.Arcs v2)(h3:AE (AG .i64) w S x.Truth v3):C_Cell.rep w S x [.string x.Name,.int .i64 x.Kind,v1,v2,v3,.int .i64 x.Leak,.int .i64 x.Energy]:=by
 simp only [C_Cell,Dl,Bc,AG,BK,Az,FQ]
 exact⟨_,_,rfl,rfl,⟨_,_,rfl,rfl,⟨_,_,rfl,⟨_,rfl,h1⟩,⟨_,_,rfl,⟨_,rfl,h2⟩,⟨_,_,rfl,⟨_,rfl,h3⟩,⟨_,_,rfl,rfl,rfl⟩⟩⟩⟩⟩⟩
structure Ay where
 Cells:List As
structure At where
 Name:ByteArray
 Cell:Int
 Nets:List Int
def C_Instance:Co At:=Dl (fun x=>(x.Name,x.Cell,x.Nets)) (Bc Az (Bc (AG .i64) (FQ (AG .i64))))
theorem Bi{w:World}{S:Nat->Prop}{x:At}{vs:List Value}(h:C_Instance.rep w S x vs):∃v1,vs=[.string x.Name,.int .i64 x.Cell,v1]∧AE (AG .i64) w S x.Nets v1:=by
 simp only [C_Instance,Dl,Bc,AG,BK,Az,FQ]at h
 obtain⟨_,_,rfl,rfl,⟨_,_,rfl,rfl,⟨v1,rfl,h1⟩⟩⟩:=h;exact⟨v1,rfl,h1⟩
theorem Nl{w:World}{S:Nat->Prop}{x:At}{v1:Value}(h1:AE (AG .i64) w S x.Nets v1):C_Instance.rep w S x [.string x.Name,.int .i64 x.Cell,v1]:=by
 simp only [C_Instance,Dl,Bc,AG,BK,Az,FQ]
 exact⟨_,_,rfl,rfl,⟨_,_,rfl,rfl,⟨_,rfl,h1⟩⟩⟩
def GQ(x y:At):Prop:=x.Name=y.Name∧True∧FM (fun _ _=>True) x.Nets y.Nets
instance:Oo C_Instance GQ:=Oo.map (β:=At) (c:=(Bc Az (Bc (AG .i64) (FQ (AG .i64))))) (fun x=>(x.Name,x.Cell,x.Nets)) (fun p=>⟨p.1,p.2.1,p.2.2⟩) (fun _=>rfl)
structure Bb where
 Name:ByteArray
 Dir:Int
 Net:Int
def C_Port:Co Bb:=Dl (fun x=>(x.Name,x.Dir,x.Net)) (Bc Az (Bc (AG .i64) (AG .i64)))
theorem DC{w:World}{S:Nat->Prop}{x:Bb}{vs:List Value}(h:C_Port.rep w S x vs):vs=[.string x.Name,.int .i64 x.Dir,.int .i64 x.Net]:=by
 simp only [C_Port,Dl,Bc,AG,BK,Az,FQ]at h
 obtain⟨_,_,rfl,rfl,⟨_,_,rfl,rfl,rfl⟩⟩:=h;exact rfl
theorem Hz{w:World}{S:Nat->Prop}{x:Bb}:C_Port.rep w S x [.string x.Name,.int .i64 x.Dir,.int .i64 x.Net]:=by
 simp only [C_Port,Dl,Bc,AG,BK,Az,FQ]
 exact⟨_,_,rfl,rfl,⟨_,_,rfl,rfl,rfl⟩⟩
instance:Cx C_Port:=by unfold C_Port;infer_instance
def PX(x y:Bb):Prop:=x.Name=y.Name∧True∧True
instance:Oo C_Port PX:=Oo.map (β:=Bb) (c:=(Bc Az (Bc (AG .i64) (AG .i64)))) (fun x=>(x.Name,x.Dir,x.Net)) (fun p=>⟨p.1,p.2.1,p.2.2⟩) (fun _=>rfl)
structure AV where
 Instances:List At
 Nets:List ByteArray
 Ports:List Bb
structure BU where
 Parent:List Int
 Res:List Int
 Cap:List Int
 Sink:List Int
def C_Wire:Co BU:=Dl (fun x=>(x.Parent,x.Res,x.Cap,x.Sink)) (Bc (FQ (AG .i64)) (Bc (FQ (AG .i64)) (Bc (FQ (AG .i64)) (FQ (AG .i64)))))
theorem Bx{w:World}{S:Nat->Prop}{x:BU}{vs:List Value}(h:C_Wire.rep w S x vs):∃v1 v2 v3 v4,vs=[v1,v2,v3,v4]∧AE (AG .i64) w S x.Parent v1∧AE (AG .i64) w S x.Res v2∧AE (AG .i64) w S x.Cap v3∧AE (AG .i64) w S x.Sink v4:=by
 simp only [C_Wire,Dl,Bc,AG,BK,Az,FQ]at h
 obtain⟨_,_,rfl,⟨v1,rfl,h1⟩,⟨_,_,rfl,⟨v2,rfl,h2⟩,⟨_,_,rfl,⟨v3,rfl,h3⟩,⟨v4,rfl,h4⟩⟩⟩⟩:=h;exact⟨v1,v2,v3,v4,rfl,h1,h2,h3,h4⟩
theorem Ls{w:World}{S:Nat->Prop}{x:BU}{v1 v2 v3 v4:Value}(h1:AE (AG .i64) w S x.Parent v1)(h2:AE (AG .i64) w S x.Res v2)(h3:AE (AG .i64) w S x.Cap v3)(h4:AE (AG .i64) w S x.Sink v4):C_Wire.rep w S x [v1,v2,v3,v4]:=by
 simp only [C_Wire,Dl,Bc,AG,BK,Az,FQ]
 exact⟨_,_,rfl,⟨_,rfl,h1⟩,⟨_,_,rfl,⟨_,rfl,h2⟩,⟨_,_,rfl,⟨_,rfl,h3⟩,⟨_,rfl,h4⟩⟩⟩⟩
def GW(x y:BU):Prop:=FM (fun _ _=>True) x.Parent y.Parent∧FM (fun _ _=>True) x.Res y.Res∧FM (fun _ _=>True) x.Cap y.Cap∧FM (fun _ _=>True) x.Sink y.Sink
instance:Oo C_Wire GW:=Oo.map (β:=BU) (c:=(Bc (FQ (AG .i64)) (Bc (FQ (AG .i64)) (Bc (FQ (AG .i64)) (FQ (AG .i64)))))) (fun x=>(x.Parent,x.Res,x.Cap,x.Sink)) (fun p=>⟨p.1,p.2.1,p.2.2.1,p.2.2.2⟩) (fun _=>rfl)
structure AJ where
 Library:Ay
 Design:AV
 Wires:List BU
structure Ae where
 Early:Int
 Late:Int
def C_Span:Co Ae:=Dl (fun x=>(x.Early,x.Late)) (Bc (AG .i64) (AG .i64))
theorem Bj{w:World}{S:Nat->Prop}{x:Ae}{vs:List Value}(h:C_Span.rep w S x vs):vs=[.int .i64 x.Early,.int .i64 x.Late]:=by
 simp only [C_Span,Dl,Bc,AG,BK,Az,FQ]at h
 obtain⟨_,_,rfl,rfl,rfl⟩:=h;exact rfl
theorem DG{w:World}{S:Nat->Prop}{x:Ae}:C_Span.rep w S x [.int .i64 x.Early,.int .i64 x.Late]:=by
 simp only [C_Span,Dl,Bc,AG,BK,Az,FQ]
 exact⟨_,_,rfl,rfl,rfl⟩
instance:Cx C_Span:=by unfold C_Span;infer_instance
structure Ag where
 Reached:List Bool
 Arrival:List Ae
 Slew:List Ae
structure DJ where
 Setup:Int
 Hold:Int
 Uncertainty:Int
structure BR where
 Name:ByteArray
 CellEarly:Int
 CellLate:Int
 WireEarly:Int
 WireLate:Int
structure BG where
 instance_:Int
 pin_:Int
 net_:Int
 drives_:Bool
def C_place:Co BG:=Dl (fun x=>(x.instance_,x.pin_,x.net_,x.drives_)) (Bc (AG .i64) (Bc (AG .i64) (Bc (AG .i64) BK)))
theorem GL{w:World}{S:Nat->Prop}{x:BG}{vs:List Value}(h:C_place.rep w S x vs):vs=[.int .i64 x.instance_,.int .i64 x.pin_,.int .i64 x.net_,.bool x.drives_]:=by
 simp only [C_place,Dl,Bc,AG,BK,Az,FQ]at h
 obtain⟨_,_,rfl,rfl,⟨_,_,rfl,rfl,⟨_,_,rfl,rfl,rfl⟩⟩⟩:=h;exact rfl
theorem NI{w:World}{S:Nat->Prop}{x:BG}:C_place.rep w S x [.int .i64 x.instance_,.int .i64 x.pin_,.int .i64 x.net_,.bool x.drives_]:=by
 simp only [C_place,Dl,Bc,AG,BK,Az,FQ]
 exact⟨_,_,rfl,rfl,⟨_,_,rfl,rfl,⟨_,_,rfl,rfl,rfl⟩⟩⟩
instance:Cx C_place:=by unfold C_place;infer_instance
structure AR where
 From:Int
 To:Int
 Kind:Int
 Index:Int
def C_Link:Co AR:=Dl (fun x=>(x.From,x.To,x.Kind,x.Index)) (Bc (AG .i64) (Bc (AG .i64) (Bc (AG .i64) (AG .i64))))
theorem DT{w:World}{S:Nat->Prop}{x:AR}{vs:List Value}(h:C_Link.rep w S x vs):vs=[.int .i64 x.From,.int .i64 x.To,.int .i64 x.Kind,.int .i64 x.Index]:=by
 simp only [C_Link,Dl,Bc,AG,BK,Az,FQ]at h
 obtain⟨_,_,rfl,rfl,⟨_,_,rfl,rfl,⟨_,_,rfl,rfl,rfl⟩⟩⟩:=h;exact rfl
theorem Ln{w:World}{S:Nat->Prop}{x:AR}:C_Link.rep w S x [.int .i64 x.From,.int .i64 x.To,.int .i64 x.Kind,.int .i64 x.Index]:=by
 simp only [C_Link,Dl,Bc,AG,BK,Az,FQ]
 exact⟨_,_,rfl,rfl,⟨_,_,rfl,rfl,⟨_,_,rfl,rfl,rfl⟩⟩⟩
instance:Cx C_Link:=by unfold C_Link;infer_instance
structure CS where
 Block:AJ
 places_:List BG
 links_:List AR
 loads_:List Int
 delays_:List Unit
 extras_:List Int
structure AA where
 code_:List Int
 at_:Int
 seed_:Int
structure Ai where
 Node:Int
 Arrival:Ae
 Slew:Ae
def C_Source:Co Ai:=Dl (fun x=>(x.Node,x.Arrival,x.Slew)) (Bc (AG .i64) (Bc C_Span C_Span))
theorem CG{w:World}{S:Nat->Prop}{x:Ai}{vs:List Value}(h:C_Source.rep w S x vs):vs=[.int .i64 x.Node,.int .i64 x.Arrival.Early,.int .i64 x.Arrival.Late,.int .i64 x.Slew.Early,.int .i64 x.Slew.Late]:=by
 simp only [C_Source,Dl,Bc,AG,BK,Az,FQ,C_Span,C_Span]at h
 obtain⟨_,_,rfl,rfl,⟨_,_,rfl,⟨_,_,rfl,rfl,rfl⟩,⟨_,_,rfl,rfl,rfl⟩⟩⟩:=h;exact rfl
theorem Fy{w:World}{S:Nat->Prop}{x:Ai}:C_Source.rep w S x [.int .i64 x.Node,.int .i64 x.Arrival.Early,.int .i64 x.Arrival.Late,.int .i64 x.Slew.Early,.int .i64 x.Slew.Late]:=by
 simp only [C_Source,Dl,Bc,AG,BK,Az,FQ,C_Span,C_Span]
 exact⟨_,_,rfl,rfl,⟨_,_,rfl,⟨_,_,rfl,rfl,rfl⟩,⟨_,_,rfl,rfl,rfl⟩⟩⟩
instance:Cx C_Source:=by unfold C_Source;infer_instance
structure BL where
 instance_:Int
 pin_:Int
 net_:Int
 drives_:Bool
def C_l05Place:Co BL:=Dl (fun x=>(x.instance_,x.pin_,x.net_,x.drives_)) (Bc (AG .i64) (Bc (AG .i64) (Bc (AG .i64) BK)))
theorem Bu{w:World}{S:Nat->Prop}{x:BL}{vs:List Value}(h:C_l05Place.rep w S x vs):vs=[.int .i64 x.instance_,.int .i64 x.pin_,.int .i64 x.net_,.bool x.drives_]:=by
 simp only [C_l05Place,Dl,Bc,AG,BK,Az,FQ]at h
 obtain⟨_,_,rfl,rfl,⟨_,_,rfl,rfl,⟨_,_,rfl,rfl,rfl⟩⟩⟩:=h;exact rfl
theorem KZ{w:World}{S:Nat->Prop}{x:BL}:C_l05Place.rep w S x [.int .i64 x.instance_,.int .i64 x.pin_,.int .i64 x.net_,.bool x.drives_]:=by
 simp only [C_l05Place,Dl,Bc,AG,BK,Az,FQ]
 exact⟨_,_,rfl,rfl,⟨_,_,rfl,rfl,⟨_,_,rfl,rfl,rfl⟩⟩⟩
instance:Cx C_l05Place:=by unfold C_l05Place;infer_instance
structure CY where
 e0:Int
 e1:Int
def C_A2_Int:Co CY:=Dl (fun x=>(x.e0,x.e1)) (Bc (AG .i64) (AG .i64))
theorem Nk{w:World}{S:Nat->Prop}{x:CY}{vs:List Value}(h:C_A2_Int.rep w S x vs):vs=[.int .i64 x.e0,.int .i64 x.e1]:=by
 simp only [C_A2_Int,Dl,Bc,AG,BK,Az,FQ]at h
 obtain⟨_,_,rfl,rfl,rfl⟩:=h;exact rfl
theorem Cq{w:World}{S:Nat->Prop}{x:CY}:C_A2_Int.rep w S x [.int .i64 x.e0,.int .i64 x.e1]:=by
 simp only [C_A2_Int,Dl,Bc,AG,BK,Az,FQ]
 exact⟨_,_,rfl,rfl,rfl⟩
instance:Cx C_A2_Int:=by unfold C_A2_Int;infer_instance
def Zo(k:IntKind)(x:Int):Prop:=k.min<=x∧x<=k.max
theorem Zo.i64{x:Int}(h:Zo .i64 x):-9223372036854775808<=x∧x<=9223372036854775807:=h
end Go.Eng
