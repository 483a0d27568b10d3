/- The data of the program, as plain Lean structures, and their cells; no condition. -/
import Derived.Test.YthojemmmflaicacGreatDoorEng
set_option linter.all false
namespace Go.Eng
open Go Go.RowKit
structure Bt where
 Name:ByteArray
 Dir:Int
 Cap:Int
 Clock:Bool
def C_Pin:Cy Bt:=Dl (fun x=>(x.Name,x.Dir,x.Cap,x.Clock)) (Ba Ax (Ba (AJ .i64) (Ba (AJ .i64) BG)))
theorem Cj{w:World}{S:Nat->Prop}{x:Bt}{vs:List Value}(h:C_Pin.rep w S x vs):vs=[.string x.Name,.int .i64 x.Dir,.int .i64 x.Cap,.bool x.Clock]:=by
 simp only [C_Pin,Dl,Ba,AJ,BG,Ax,FT]at h
 obtain⟨_,_,rfl,rfl,⟨_,_,rfl,rfl,⟨_,_,rfl,rfl,rfl⟩⟩⟩:=h;exact rfl
theorem Jr{w:World}{S:Nat->Prop}{x:Bt}:C_Pin.rep w S x [.string x.Name,.int .i64 x.Dir,.int .i64 x.Cap,.bool x.Clock]:=by
 simp only [C_Pin,Dl,Ba,AJ,BG,Ax,FT]
 exact⟨_,_,rfl,rfl,⟨_,_,rfl,rfl,⟨_,_,rfl,rfl,rfl⟩⟩⟩
instance:DU C_Pin:=by unfold C_Pin;infer_instance
structure BR where
 Slews:List Int
 Loads:List Int
 Values:List Int
def C_Table:Cy BR:=Dl (fun x=>(x.Slews,x.Loads,x.Values)) (Ba (FT (AJ .i64)) (Ba (FT (AJ .i64)) (FT (AJ .i64))))
theorem Gw{w:World}{S:Nat->Prop}{x:BR}{vs:List Value}(h:C_Table.rep w S x vs):∃v1 v2 v3,vs=[v1,v2,v3]∧AD (AJ .i64) w S x.Slews v1∧AD (AJ .i64) w S x.Loads v2∧AD (AJ .i64) w S x.Values v3:=by
 simp only [C_Table,Dl,Ba,AJ,BG,Ax,FT]at h
 obtain⟨_,_,rfl,⟨v1,rfl,h1⟩,⟨_,_,rfl,⟨v2,rfl,h2⟩,⟨v3,rfl,h3⟩⟩⟩:=h;exact⟨v1,v2,v3,rfl,h1,h2,h3⟩
theorem OT{w:World}{S:Nat->Prop}{x:BR}{v1 v2 v3:Value}(h1:AD (AJ .i64) w S x.Slews v1)(h2:AD (AJ .i64) w S x.Loads v2)(h3:AD (AJ .i64) w S x.Values v3):C_Table.rep w S x [v1,v2,v3]:=by
 simp only [C_Table,Dl,Ba,AJ,BG,Ax,FT]
 exact⟨_,_,rfl,⟨_,rfl,h1⟩,⟨_,_,rfl,⟨_,rfl,h2⟩,⟨_,rfl,h3⟩⟩⟩
structure Bg where
 Kind:Int
 From:Int
 To:Int
 Sense:Int
 Delay:List BR
 Slew:List BR
def C_Arc:Cy Bg:=Dl (fun x=>(x.Kind,x.From,x.To,x.Sense,x.Delay,x.Slew)) (Ba (AJ .i64) (Ba (AJ .i64) (Ba (AJ .i64) (Ba (AJ .i64) (Ba (FT C_Table) (FT C_Table))))))
theorem Cv{w:World}{S:Nat->Prop}{x:Bg}{vs:List Value}(h:C_Arc.rep w S x vs):∃v1 v2,vs=[.int .i64 x.Kind,.int .i64 x.From,.int .i64 x.To,.int .i64 x.Sense,v1,v2]∧AD C_Table w S x.Delay v1∧AD C_Table w S x.Slew v2:=by
 simp only [C_Arc,Dl,Ba,AJ,BG,Ax,FT]at h
 obtain⟨_,_,rfl,rfl,⟨_,_,rfl,rfl,⟨_,_,rfl,rfl,⟨_,_,rfl,rfl,⟨_,_,rfl,⟨v1,rfl,h1⟩,⟨v2,rfl,h2⟩⟩⟩⟩⟩⟩:=h;exact⟨v1,v2,rfl,h1,h2⟩
theorem KP{w:World}{S:Nat->Prop}{x:Bg}{v1 v2:Value}(h1:AD C_Table w S x.Delay v1)(h2:AD C_Table w S x.Slew v2):C_Arc.rep w S x [.int .i64 x.Kind,.int .i64 x.From,.int .i64 x.To,.int .i64 x.Sense,v1,v2]:=by
 simp only [C_Arc,Dl,Ba,AJ,BG,Ax,FT]
 exact⟨_,_,rfl,rfl,⟨_,_,rfl,rfl,⟨_,_,rfl,rfl,⟨_,_,rfl,rfl,⟨_,_,rfl,⟨_,rfl,h1⟩,⟨_,rfl,h2⟩⟩⟩⟩⟩⟩
structure Al where
 Name:ByteArray
 Kind:Int
 Pins:List Bt
 Arcs:List Bg
 Truth:List Int
 Leak:Int
 Energy:Int
def C_Cell:Cy Al:=Dl (fun x=>(x.Name,x.Kind,x.Pins,x.Arcs,x.Truth,x.Leak,x.Energy)) (Ba Ax (Ba (AJ .i64) (Ba (FT C_Pin) (Ba (FT C_Arc) (Ba (FT (AJ .i64)) (Ba (AJ .i64) (AJ .i64)))))))
theorem CY{w:World}{S:Nat->Prop}{x:Al}{vs:List Value}(h:C_Cell.rep w S x vs):∃v1 v2 v3,vs=[.string x.Name,.int .i64 x.Kind,v1,v2,v3,.int .i64 x.Leak,.int .i64 x.Energy]∧AD C_Pin w S x.Pins v1∧AD C_Arc w S x.Arcs v2∧AD (AJ .i64) w S x.Truth v3:=by
 simp only [C_Cell,Dl,Ba,AJ,BG,Ax,FT]at h
 obtain⟨_,_,rfl,rfl,⟨_,_,rfl,rfl,⟨_,_,rfl,⟨v1,rfl,h1⟩,⟨_,_,rfl,⟨v2,rfl,h2⟩,⟨_,_,rfl,⟨v3,rfl,h3⟩,⟨_,_,rfl,rfl,rfl⟩⟩⟩⟩⟩⟩:=h;exact⟨v1,v2,v3,rfl,h1,h2,h3⟩
theorem FM{w:World}{S:Nat->Prop}{x:Al}{v1 v2 v3:Value}(h1:AD C_Pin w S x.Pins v1)(h2:AD C_Arc w S x.Arcs v2)(h3:AD (AJ .i64) w S x.Truth v3):C_Cell.rep w S x [.string x.Name,.int .i64 x.Kind,v1,v2,v3,.int .i64 x.Leak,.int .i64 x.Energy]:=by
 simp only [C_Cell,Dl,Ba,AJ,BG,Ax,FT]
 exact⟨_,_,rfl,rfl,⟨_,_,rfl,rfl,⟨_,_,rfl,⟨_,rfl,h1⟩,⟨_,_,rfl,⟨_,rfl,h2⟩,⟨_,_,rfl,⟨_,rfl,h3⟩,⟨_,_,rfl,rfl,rfl⟩⟩⟩⟩⟩⟩
structure Ay where
 Cells:List Al
structure Aq where
 Name:ByteArray
 Cell:Int
 Nets:List Int
def C_Instance:Cy Aq:=Dl (fun x=>(x.Name,x.Cell,x.Nets)) (Ba Ax (Ba (AJ .i64) (FT (AJ .i64))))
theorem BV{w:World}{S:Nat->Prop}{x:Aq}{vs:List Value}(h:C_Instance.rep w S x vs):∃v1,vs=[.string x.Name,.int .i64 x.Cell,v1]∧AD (AJ .i64) w S x.Nets v1:=by
 simp only [C_Instance,Dl,Ba,AJ,BG,Ax,FT]at h
 obtain⟨_,_,rfl,rfl,⟨_,_,rfl,rfl,⟨v1,rfl,h1⟩⟩⟩:=h;exact⟨v1,rfl,h1⟩
theorem Og{w:World}{S:Nat->Prop}{x:Aq}{v1:Value}(h1:AD (AJ .i64) w S x.Nets v1):C_Instance.rep w S x [.string x.Name,.int .i64 x.Cell,v1]:=by
 simp only [C_Instance,Dl,Ba,AJ,BG,Ax,FT]
 exact⟨_,_,rfl,rfl,⟨_,_,rfl,rfl,⟨_,rfl,h1⟩⟩⟩
def Gm(x y:Aq):Prop:=x.Name=y.Name∧True∧Fb (fun _ _=>True) x.Nets y.Nets
instance:Px C_Instance Gm:=Px.map (β:=Aq) (c:=(Ba Ax (Ba (AJ .i64) (FT (AJ .i64))))) (fun x=>(x.Name,x.Cell,x.Nets)) (fun p=>⟨p.1,p.2.1,p.2.2⟩) (fun _=>rfl)
structure CJ where
 Name:ByteArray
 Dir:Int
 Net:Int
def C_Port:Cy CJ:=Dl (fun x=>(x.Name,x.Dir,x.Net)) (Ba Ax (Ba (AJ .i64) (AJ .i64)))
theorem DM{w:World}{S:Nat->Prop}{x:CJ}{vs:List Value}(h:C_Port.rep w S x vs):vs=[.string x.Name,.int .i64 x.Dir,.int .i64 x.Net]:=by
 simp only [C_Port,Dl,Ba,AJ,BG,Ax,FT]at h
 obtain⟨_,_,rfl,rfl,⟨_,_,rfl,rfl,rfl⟩⟩:=h;exact rfl
theorem IQ{w:World}{S:Nat->Prop}{x:CJ}:C_Port.rep w S x [.string x.Name,.int .i64 x.Dir,.int .i64 x.Net]:=by
 simp only [C_Port,Dl,Ba,AJ,BG,Ax,FT]
 exact⟨_,_,rfl,rfl,⟨_,_,rfl,rfl,rfl⟩⟩
instance:DU C_Port:=by unfold C_Port;infer_instance
def QC(x y:CJ):Prop:=x.Name=y.Name∧True∧True
instance:Px C_Port QC:=Px.map (β:=CJ) (c:=(Ba Ax (Ba (AJ .i64) (AJ .i64)))) (fun x=>(x.Name,x.Dir,x.Net)) (fun p=>⟨p.1,p.2.1,p.2.2⟩) (fun _=>rfl)
structure AV where
 Instances:List Aq
 Nets:List ByteArray
 Ports:List CJ
structure BY where
 Parent:List Int
 Res:List Int
 Cap:List Int
 Sink:List Int
def C_Wire:Cy BY:=Dl (fun x=>(x.Parent,x.Res,x.Cap,x.Sink)) (Ba (FT (AJ .i64)) (Ba (FT (AJ .i64)) (Ba (FT (AJ .i64)) (FT (AJ .i64)))))
theorem CC{w:World}{S:Nat->Prop}{x:BY}{vs:List Value}(h:C_Wire.rep w S x vs):∃v1 v2 v3 v4,vs=[v1,v2,v3,v4]∧AD (AJ .i64) w S x.Parent v1∧AD (AJ .i64) w S x.Res v2∧AD (AJ .i64) w S x.Cap v3∧AD (AJ .i64) w S x.Sink v4:=by
 simp only [C_Wire,Dl,Ba,AJ,BG,Ax,FT]at h
 obtain⟨_,_,rfl,⟨v1,rfl,h1⟩,⟨_,_,rfl,⟨v2,rfl,h2⟩,⟨_,_,rfl,⟨v3,rfl,h3⟩,⟨v4,rfl,h4⟩⟩⟩⟩:=h;exact⟨v1,v2,v3,v4,rfl,h1,h2,h3,h4⟩
theorem Ml{w:World}{S:Nat->Prop}{x:BY}{v1 v2 v3 v4:Value}(h1:AD (AJ .i64) w S x.Parent v1)(h2:AD (AJ .i64) w S x.Res v2)(h3:AD (AJ .i64) w S x.Cap v3)(h4:AD (AJ .i64) w S x.Sink v4):C_Wire.rep w S x [v1,v2,v3,v4]:=by
 simp only [C_Wire,Dl,Ba,AJ,BG,Ax,FT]
 exact⟨_,_,rfl,⟨_,rfl,h1⟩,⟨_,_,rfl,⟨_,rfl,h2⟩,⟨_,_,rfl,⟨_,rfl,h3⟩,⟨_,rfl,h4⟩⟩⟩⟩
def HE(x y:BY):Prop:=Fb (fun _ _=>True) x.Parent y.Parent∧Fb (fun _ _=>True) x.Res y.Res∧Fb (fun _ _=>True) x.Cap y.Cap∧Fb (fun _ _=>True) x.Sink y.Sink
instance:Px C_Wire HE:=Px.map (β:=BY) (c:=(Ba (FT (AJ .i64)) (Ba (FT (AJ .i64)) (Ba (FT (AJ .i64)) (FT (AJ .i64)))))) (fun x=>(x.Parent,x.Res,x.Cap,x.Sink)) (fun p=>⟨p.1,p.2.1,p.2.2.1,p.2.2.2⟩) (fun _=>rfl)
structure AI where
 Library:Ay
 Design:AV
 Wires:List BY
structure Ai where
 Early:Int
 Late:Int
def C_Span:Cy Ai:=Dl (fun x=>(x.Early,x.Late)) (Ba (AJ .i64) (AJ .i64))
theorem BF{w:World}{S:Nat->Prop}{x:Ai}{vs:List Value}(h:C_Span.rep w S x vs):vs=[.int .i64 x.Early,.int .i64 x.Late]:=by
 simp only [C_Span,Dl,Ba,AJ,BG,Ax,FT]at h
 obtain⟨_,_,rfl,rfl,rfl⟩:=h;exact rfl
theorem DS{w:World}{S:Nat->Prop}{x:Ai}:C_Span.rep w S x [.int .i64 x.Early,.int .i64 x.Late]:=by
 simp only [C_Span,Dl,Ba,AJ,BG,Ax,FT]
 exact⟨_,_,rfl,rfl,rfl⟩
instance:DU C_Span:=by unfold C_Span;infer_instance
structure Ar where
 Reached:List Bool
 Arrival:List Ai
 Slew:List Ai
structure Bf where
 Instance:Int
 Clock:Int
 Enable:Int
 Level:Int
def C_Gate:Cy Bf:=Dl (fun x=>(x.Instance,x.Clock,x.Enable,x.Level)) (Ba (AJ .i64) (Ba (AJ .i64) (Ba (AJ .i64) (AJ .i64))))
theorem QM{w:World}{S:Nat->Prop}{x:Bf}{vs:List Value}(h:C_Gate.rep w S x vs):vs=[.int .i64 x.Instance,.int .i64 x.Clock,.int .i64 x.Enable,.int .i64 x.Level]:=by
 simp only [C_Gate,Dl,Ba,AJ,BG,Ax,FT]at h
 obtain⟨_,_,rfl,rfl,⟨_,_,rfl,rfl,⟨_,_,rfl,rfl,rfl⟩⟩⟩:=h;exact rfl
theorem Ti{w:World}{S:Nat->Prop}{x:Bf}:C_Gate.rep w S x [.int .i64 x.Instance,.int .i64 x.Clock,.int .i64 x.Enable,.int .i64 x.Level]:=by
 simp only [C_Gate,Dl,Ba,AJ,BG,Ax,FT]
 exact⟨_,_,rfl,rfl,⟨_,_,rfl,rfl,⟨_,_,rfl,rfl,rfl⟩⟩⟩
instance:DU C_Gate:=by unfold C_Gate;infer_instance
structure BO where
 Setup:Int
 Hold:Int
 Uncertainty:Int
structure Ea where
 b_:List Int
 i_:Int
 h_:Int
structure Az where
 instance_:Int
 pin_:Int
 net_:Int
 drives_:Bool
def C_place:Cy Az:=Dl (fun x=>(x.instance_,x.pin_,x.net_,x.drives_)) (Ba (AJ .i64) (Ba (AJ .i64) (Ba (AJ .i64) BG)))
theorem Fa{w:World}{S:Nat->Prop}{x:Az}{vs:List Value}(h:C_place.rep w S x vs):vs=[.int .i64 x.instance_,.int .i64 x.pin_,.int .i64 x.net_,.bool x.drives_]:=by
 simp only [C_place,Dl,Ba,AJ,BG,Ax,FT]at h
 obtain⟨_,_,rfl,rfl,⟨_,_,rfl,rfl,⟨_,_,rfl,rfl,rfl⟩⟩⟩:=h;exact rfl
theorem OG{w:World}{S:Nat->Prop}{x:Az}:C_place.rep w S x [.int .i64 x.instance_,.int .i64 x.pin_,.int .i64 x.net_,.bool x.drives_]:=by
 simp only [C_place,Dl,Ba,AJ,BG,Ax,FT]
 exact⟨_,_,rfl,rfl,⟨_,_,rfl,rfl,⟨_,_,rfl,rfl,rfl⟩⟩⟩
instance:DU C_place:=by unfold C_place;infer_instance
structure AS where
 From:Int
 To:Int
 Kind:Int
 Index:Int
def C_Link:Cy AS:=Dl (fun x=>(x.From,x.To,x.Kind,x.Index)) (Ba (AJ .i64) (Ba (AJ .i64) (Ba (AJ .i64) (AJ .i64))))
theorem DC{w:World}{S:Nat->Prop}{x:AS}{vs:List Value}(h:C_Link.rep w S x vs):vs=[.int .i64 x.From,.int .i64 x.To,.int .i64 x.Kind,.int .i64 x.Index]:=by
 simp only [C_Link,Dl,Ba,AJ,BG,Ax,FT]at h
 obtain⟨_,_,rfl,rfl,⟨_,_,rfl,rfl,⟨_,_,rfl,rfl,rfl⟩⟩⟩:=h;exact rfl
theorem Mq{w:World}{S:Nat->Prop}{x:AS}:C_Link.rep w S x [.int .i64 x.From,.int .i64 x.To,.int .i64 x.Kind,.int .i64 x.Index]:=by
 simp only [C_Link,Dl,Ba,AJ,BG,Ax,FT]
 exact⟨_,_,rfl,rfl,⟨_,_,rfl,rfl,⟨_,_,rfl,rfl,rfl⟩⟩⟩
instance:DU C_Link:=by unfold C_Link;infer_instance
structure Cz where
 Block:AI
 places_:List Az
 links_:List AS
 loads_:List Int
 delays_:List Unit
 extras_:List Int
structure AA where
 code_:List Int
 at_:Int
 seed_:Int
structure BU where
 Name:ByteArray
 CellEarly:Int
 CellLate:Int
 WireEarly:Int
 WireLate:Int
structure BH where
 instance_:Int
 pin_:Int
 net_:Int
 drives_:Bool
def C_l05Place:Cy BH:=Dl (fun x=>(x.instance_,x.pin_,x.net_,x.drives_)) (Ba (AJ .i64) (Ba (AJ .i64) (Ba (AJ .i64) BG)))
theorem Bo{w:World}{S:Nat->Prop}{x:BH}{vs:List Value}(h:C_l05Place.rep w S x vs):vs=[.int .i64 x.instance_,.int .i64 x.pin_,.int .i64 x.net_,.bool x.drives_]:=by
 simp only [C_l05Place,Dl,Ba,AJ,BG,Ax,FT]at h
 obtain⟨_,_,rfl,rfl,⟨_,_,rfl,rfl,⟨_,_,rfl,rfl,rfl⟩⟩⟩:=h;exact rfl
theorem LB{w:World}{S:Nat->Prop}{x:BH}:C_l05Place.rep w S x [.int .i64 x.instance_,.int .i64 x.pin_,.int .i64 x.net_,.bool x.drives_]:=by
 simp only [C_l05Place,Dl,Ba,AJ,BG,Ax,FT]
 exact⟨_,_,rfl,rfl,⟨_,_,rfl,rfl,⟨_,_,rfl,rfl,rfl⟩⟩⟩
instance:DU C_l05Place:=by unfold C_l05Place;infer_instance
structure Ao where
 Node:Int
 Arrival:Ai
 Slew:Ai
def C_Source:Cy Ao:=Dl (fun x=>(x.Node,x.Arrival,x.Slew)) (Ba (AJ .i64) (Ba C_Span C_Span))
theorem CH{w:World}{S:Nat->Prop}{x:Ao}{vs:List Value}(h:C_Source.rep w S x vs):vs=[.int .i64 x.Node,.int .i64 x.Arrival.Early,.int .i64 x.Arrival.Late,.int .i64 x.Slew.Early,.int .i64 x.Slew.Late]:=by
 simp only [C_Source,Dl,Ba,AJ,BG,Ax,FT,C_Span,C_Span]at h
 obtain⟨_,_,rfl,rfl,⟨_,_,rfl,⟨_,_,rfl,rfl,rfl⟩,⟨_,_,rfl,rfl,rfl⟩⟩⟩:=h;exact rfl
theorem GT{w:World}{S:Nat->Prop}{x:Ao}:C_Source.rep w S x [.int .i64 x.Node,.int .i64 x.Arrival.Early,.int .i64 x.Arrival.Late,.int .i64 x.Slew.Early,.int .i64 x.Slew.Late]:=by
 simp only [C_Source,Dl,Ba,AJ,BG,Ax,FT,C_Span,C_Span]
 exact⟨_,_,rfl,rfl,⟨_,_,rfl,⟨_,_,rfl,rfl,rfl⟩,⟨_,_,rfl,rfl,rfl⟩⟩⟩
instance:DU C_Source:=by unfold C_Source;infer_instance
structure Ca where
 e0:Int
 e1:Int
def C_A2_Int:Cy Ca:=Dl (fun x=>(x.e0,x.e1)) (Ba (AJ .i64) (AJ .i64))
theorem Ok{w:World}{S:Nat->Prop}{x:Ca}{vs:List Value}(h:C_A2_Int.rep w S x vs):vs=[.int .i64 x.e0,.int .i64 x.e1]:=by
 simp only [C_A2_Int,Dl,Ba,AJ,BG,Ax,FT]at h
 obtain⟨_,_,rfl,rfl,rfl⟩:=h;exact rfl
theorem DD{w:World}{S:Nat->Prop}{x:Ca}:C_A2_Int.rep w S x [.int .i64 x.e0,.int .i64 x.e1]:=by
 simp only [C_A2_Int,Dl,Ba,AJ,BG,Ax,FT]
 exact⟨_,_,rfl,rfl,rfl⟩
instance:DU C_A2_Int:=by unfold C_A2_Int;infer_instance
def dD(k:IntKind)(x:Int):Prop:=k.min<=x∧x<=k.max
theorem dD.i64{x:Int}(h:dD .i64 x):-9223372036854775808<=x∧x<=9223372036854775807:=h
end Go.Eng
