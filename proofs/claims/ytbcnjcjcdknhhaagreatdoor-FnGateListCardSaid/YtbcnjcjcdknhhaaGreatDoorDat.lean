/- The data of the program, as plain Lean structures, and their cells; no condition. -/
import Derived.Test.YtbcnjcjcdknhhaaGreatDoorEng
set_option linter.all false
namespace Go.Eng
open Go Go.RowKit
structure BM where
 Name:ByteArray
 Dir:Int
 Cap:Int
 Clock:Bool
def C_Pin:CN BM:=Cq (fun x=>(x.Name,x.Dir,x.Cap,x.Clock)) (BR Az (BR (AJ .i64) (BR (AJ .i64) BQ)))
theorem Bz{w:World}{S:Nat->Prop}{x:BM}{vs:List Value}(h:C_Pin.rep w S x vs):vs=[.string x.Name,.int .i64 x.Dir,.int .i64 x.Cap,.bool x.Clock]:=by
 simp only [C_Pin,Cq,BR,AJ,BQ,Az,Dw]at h
 obtain⟨_,_,rfl,rfl,⟨_,_,rfl,rfl,⟨_,_,rfl,rfl,rfl⟩⟩⟩:=h;exact rfl
theorem Hg{w:World}{S:Nat->Prop}{x:BM}:C_Pin.rep w S x [.string x.Name,.int .i64 x.Dir,.int .i64 x.Cap,.bool x.Clock]:=by
 simp only [C_Pin,Cq,BR,AJ,BQ,Az,Dw]
 exact⟨_,_,rfl,rfl,⟨_,_,rfl,rfl,⟨_,_,rfl,rfl,rfl⟩⟩⟩
instance:CX C_Pin:=by unfold C_Pin;infer_instance
structure BK where
 Slews:List Int
 Loads:List Int
 Values:List Int
def C_Table:CN BK:=Cq (fun x=>(x.Slews,x.Loads,x.Values)) (BR (Dw (AJ .i64)) (BR (Dw (AJ .i64)) (Dw (AJ .i64))))
theorem JT{w:World}{S:Nat->Prop}{x:BK}{vs:List Value}(h:C_Table.rep w S x vs):∃v1 v2 v3,vs=[v1,v2,v3]∧AC (AJ .i64) w S x.Slews v1∧AC (AJ .i64) w S x.Loads v2∧AC (AJ .i64) w S x.Values v3:=by
 simp only [C_Table,Cq,BR,AJ,BQ,Az,Dw]at h
 obtain⟨_,_,rfl,⟨v1,rfl,h1⟩,⟨_,_,rfl,⟨v2,rfl,h2⟩,⟨v3,rfl,h3⟩⟩⟩:=h;exact⟨v1,v2,v3,rfl,h1,h2,h3⟩
theorem LB{w:World}{S:Nat->Prop}{x:BK}{v1 v2 v3:Value}(h1:AC (AJ .i64) w S x.Slews v1)(h2:AC (AJ .i64) w S x.Loads v2)(h3:AC (AJ .i64) w S x.Values v3):C_Table.rep w S x [v1,v2,v3]:=by
 simp only [C_Table,Cq,BR,AJ,BQ,Az,Dw]
 exact⟨_,_,rfl,⟨_,rfl,h1⟩,⟨_,_,rfl,⟨_,rfl,h2⟩,⟨_,rfl,h3⟩⟩⟩
structure BL where
 Kind:Int
 From:Int
 To:Int
 Sense:Int
 Delay:List BK
 Slew:List BK
def C_Arc:CN BL:=Cq (fun x=>(x.Kind,x.From,x.To,x.Sense,x.Delay,x.Slew)) (BR (AJ .i64) (BR (AJ .i64) (BR (AJ .i64) (BR (AJ .i64) (BR (Dw C_Table) (Dw C_Table))))))
theorem CA{w:World}{S:Nat->Prop}{x:BL}{vs:List Value}(h:C_Arc.rep w S x vs):∃v1 v2,vs=[.int .i64 x.Kind,.int .i64 x.From,.int .i64 x.To,.int .i64 x.Sense,v1,v2]∧AC C_Table w S x.Delay v1∧AC C_Table w S x.Slew v2:=by
 simp only [C_Arc,Cq,BR,AJ,BQ,Az,Dw]at h
 obtain⟨_,_,rfl,rfl,⟨_,_,rfl,rfl,⟨_,_,rfl,rfl,⟨_,_,rfl,rfl,⟨_,_,rfl,⟨v1,rfl,h1⟩,⟨v2,rfl,h2⟩⟩⟩⟩⟩⟩:=h;exact⟨v1,v2,rfl,h1,h2⟩
theorem HO{w:World}{S:Nat->Prop}{x:BL}{v1 v2:Value}(h1:AC C_Table w S x.Delay v1)(h2:AC C_Table w S x.Slew v2):C_Arc.rep w S x [.int .i64 x.Kind,.int .i64 x.From,.int .i64 x.To,.int .i64 x.Sense,v1,v2]:=by
 simp only [C_Arc,Cq,BR,AJ,BQ,Az,Dw]
 exact⟨_,_,rfl,rfl,⟨_,_,rfl,rfl,⟨_,_,rfl,rfl,⟨_,_,rfl,rfl,⟨_,_,rfl,⟨_,rfl,h1⟩,⟨_,rfl,h2⟩⟩⟩⟩⟩⟩
structure AY where
 Name:ByteArray
 Kind:Int
 Pins:List BM
 Arcs:List BL
 Truth:List Int
 Leak:Int
 Energy:Int
def C_Cell:CN AY:=Cq (fun x=>(x.Name,x.Kind,x.Pins,x.Arcs,x.Truth,x.Leak,x.Energy)) (BR Az (BR (AJ .i64) (BR (Dw C_Pin) (BR (Dw C_Arc) (BR (Dw (AJ .i64)) (BR (AJ .i64) (AJ .i64)))))))
theorem Bn{w:World}{S:Nat->Prop}{x:AY}{vs:List Value}(h:C_Cell.rep w S x vs):∃v1 v2 v3,vs=[.string x.Name,.int .i64 x.Kind,v1,v2,v3,.int .i64 x.Leak,.int .i64 x.Energy]∧AC C_Pin w S x.Pins v1∧AC C_Arc w S x.Arcs v2∧AC (AJ .i64) w S x.Truth v3:=by
 simp only [C_Cell,Cq,BR,AJ,BQ,Az,Dw]at h
 obtain⟨_,_,rfl,rfl,⟨_,_,rfl,rfl,⟨_,_,rfl,⟨v1,rfl,h1⟩,⟨_,_,rfl,⟨v2,rfl,h2⟩,⟨_,_,rfl,⟨v3,rfl,h3⟩,⟨_,_,rfl,rfl,rfl⟩⟩⟩⟩⟩⟩:=h;exact⟨v1,v2,v3,rfl,h1,h2,h3⟩
theorem Dg{w:World}{S:Nat->Prop}{x:AY}{v1 v2 v3:Value}(h1:AC C_Pin w S x.Pins v1)(h2:AC C_Arc w S x.Arcs v2)(h3:AC (AJ .i64) w S x.Truth v3):C_Cell.rep w S x [.string x.Name,.int .i64 x.Kind,v1,v2,v3,.int .i64 x.Leak,.int .i64 x.Energy]:=by
 simp only [C_Cell,Cq,BR,AJ,BQ,Az,Dw]
 exact⟨_,_,rfl,rfl,⟨_,_,rfl,rfl,⟨_,_,rfl,⟨_,rfl,h1⟩,⟨_,_,rfl,⟨_,rfl,h2⟩,⟨_,_,rfl,⟨_,rfl,h3⟩,⟨_,_,rfl,rfl,rfl⟩⟩⟩⟩⟩⟩
structure Ap where
 Cells:List AY
structure Ak where
 Name:ByteArray
 Cell:Int
 Nets:List Int
def C_Instance:CN Ak:=Cq (fun x=>(x.Name,x.Cell,x.Nets)) (BR Az (BR (AJ .i64) (Dw (AJ .i64))))
theorem BE{w:World}{S:Nat->Prop}{x:Ak}{vs:List Value}(h:C_Instance.rep w S x vs):∃v1,vs=[.string x.Name,.int .i64 x.Cell,v1]∧AC (AJ .i64) w S x.Nets v1:=by
 simp only [C_Instance,Cq,BR,AJ,BQ,Az,Dw]at h
 obtain⟨_,_,rfl,rfl,⟨_,_,rfl,rfl,⟨v1,rfl,h1⟩⟩⟩:=h;exact⟨v1,rfl,h1⟩
theorem LV{w:World}{S:Nat->Prop}{x:Ak}{v1:Value}(h1:AC (AJ .i64) w S x.Nets v1):C_Instance.rep w S x [.string x.Name,.int .i64 x.Cell,v1]:=by
 simp only [C_Instance,Cq,BR,AJ,BQ,Az,Dw]
 exact⟨_,_,rfl,rfl,⟨_,_,rfl,rfl,⟨_,rfl,h1⟩⟩⟩
def Ej(x y:Ak):Prop:=x.Name=y.Name∧True∧Do (fun _ _=>True) x.Nets y.Nets
instance:Mc C_Instance Ej:=Mc.map (β:=Ak) (c:=(BR Az (BR (AJ .i64) (Dw (AJ .i64))))) (fun x=>(x.Name,x.Cell,x.Nets)) (fun p=>⟨p.1,p.2.1,p.2.2⟩) (fun _=>rfl)
structure BN where
 Name:ByteArray
 Dir:Int
 Net:Int
def C_Port:CN BN:=Cq (fun x=>(x.Name,x.Dir,x.Net)) (BR Az (BR (AJ .i64) (AJ .i64)))
theorem CU{w:World}{S:Nat->Prop}{x:BN}{vs:List Value}(h:C_Port.rep w S x vs):vs=[.string x.Name,.int .i64 x.Dir,.int .i64 x.Net]:=by
 simp only [C_Port,Cq,BR,AJ,BQ,Az,Dw]at h
 obtain⟨_,_,rfl,rfl,⟨_,_,rfl,rfl,rfl⟩⟩:=h;exact rfl
theorem Fu{w:World}{S:Nat->Prop}{x:BN}:C_Port.rep w S x [.string x.Name,.int .i64 x.Dir,.int .i64 x.Net]:=by
 simp only [C_Port,Cq,BR,AJ,BQ,Az,Dw]
 exact⟨_,_,rfl,rfl,⟨_,_,rfl,rfl,rfl⟩⟩
instance:CX C_Port:=by unfold C_Port;infer_instance
def NB(x y:BN):Prop:=x.Name=y.Name∧True∧True
instance:Mc C_Port NB:=Mc.map (β:=BN) (c:=(BR Az (BR (AJ .i64) (AJ .i64)))) (fun x=>(x.Name,x.Dir,x.Net)) (fun p=>⟨p.1,p.2.1,p.2.2⟩) (fun _=>rfl)
structure AL where
 Instances:List Ak
 Nets:List ByteArray
 Ports:List BN
structure BI where
 Parent:List Int
 Res:List Int
 Cap:List Int
 Sink:List Int
def C_Wire:CN BI:=Cq (fun x=>(x.Parent,x.Res,x.Cap,x.Sink)) (BR (Dw (AJ .i64)) (BR (Dw (AJ .i64)) (BR (Dw (AJ .i64)) (Dw (AJ .i64)))))
theorem CB{w:World}{S:Nat->Prop}{x:BI}{vs:List Value}(h:C_Wire.rep w S x vs):∃v1 v2 v3 v4,vs=[v1,v2,v3,v4]∧AC (AJ .i64) w S x.Parent v1∧AC (AJ .i64) w S x.Res v2∧AC (AJ .i64) w S x.Cap v3∧AC (AJ .i64) w S x.Sink v4:=by
 simp only [C_Wire,Cq,BR,AJ,BQ,Az,Dw]at h
 obtain⟨_,_,rfl,⟨v1,rfl,h1⟩,⟨_,_,rfl,⟨v2,rfl,h2⟩,⟨_,_,rfl,⟨v3,rfl,h3⟩,⟨v4,rfl,h4⟩⟩⟩⟩:=h;exact⟨v1,v2,v3,v4,rfl,h1,h2,h3,h4⟩
theorem Jp{w:World}{S:Nat->Prop}{x:BI}{v1 v2 v3 v4:Value}(h1:AC (AJ .i64) w S x.Parent v1)(h2:AC (AJ .i64) w S x.Res v2)(h3:AC (AJ .i64) w S x.Cap v3)(h4:AC (AJ .i64) w S x.Sink v4):C_Wire.rep w S x [v1,v2,v3,v4]:=by
 simp only [C_Wire,Cq,BR,AJ,BQ,Az,Dw]
 exact⟨_,_,rfl,⟨_,rfl,h1⟩,⟨_,_,rfl,⟨_,rfl,h2⟩,⟨_,_,rfl,⟨_,rfl,h3⟩,⟨_,rfl,h4⟩⟩⟩⟩
def Ew(x y:BI):Prop:=Do (fun _ _=>True) x.Parent y.Parent∧Do (fun _ _=>True) x.Res y.Res∧Do (fun _ _=>True) x.Cap y.Cap∧Do (fun _ _=>True) x.Sink y.Sink
instance:Mc C_Wire Ew:=Mc.map (β:=BI) (c:=(BR (Dw (AJ .i64)) (BR (Dw (AJ .i64)) (BR (Dw (AJ .i64)) (Dw (AJ .i64)))))) (fun x=>(x.Parent,x.Res,x.Cap,x.Sink)) (fun p=>⟨p.1,p.2.1,p.2.2.1,p.2.2.2⟩) (fun _=>rfl)
structure AP where
 Library:Ap
 Design:AL
 Wires:List BI
structure BH where
 Instance:Int
 Clock:Int
 Enable:Int
 Level:Int
def C_Gate:CN BH:=Cq (fun x=>(x.Instance,x.Clock,x.Enable,x.Level)) (BR (AJ .i64) (BR (AJ .i64) (BR (AJ .i64) (AJ .i64))))
theorem Mq{w:World}{S:Nat->Prop}{x:BH}{vs:List Value}(h:C_Gate.rep w S x vs):vs=[.int .i64 x.Instance,.int .i64 x.Clock,.int .i64 x.Enable,.int .i64 x.Level]:=by
 simp only [C_Gate,Cq,BR,AJ,BQ,Az,Dw]at h
 obtain⟨_,_,rfl,rfl,⟨_,_,rfl,rfl,⟨_,_,rfl,rfl,rfl⟩⟩⟩:=h;exact rfl
theorem Lr{w:World}{S:Nat->Prop}{x:BH}:C_Gate.rep w S x [.int .i64 x.Instance,.int .i64 x.Clock,.int .i64 x.Enable,.int .i64 x.Level]:=by
 simp only [C_Gate,Cq,BR,AJ,BQ,Az,Dw]
 exact⟨_,_,rfl,rfl,⟨_,_,rfl,rfl,⟨_,_,rfl,rfl,rfl⟩⟩⟩
instance:CX C_Gate:=by unfold C_Gate;infer_instance
structure Ax where
 instance_:Int
 pin_:Int
 net_:Int
 drives_:Bool
def C_l05Place:CN Ax:=Cq (fun x=>(x.instance_,x.pin_,x.net_,x.drives_)) (BR (AJ .i64) (BR (AJ .i64) (BR (AJ .i64) BQ)))
theorem Bf{w:World}{S:Nat->Prop}{x:Ax}{vs:List Value}(h:C_l05Place.rep w S x vs):vs=[.int .i64 x.instance_,.int .i64 x.pin_,.int .i64 x.net_,.bool x.drives_]:=by
 simp only [C_l05Place,Cq,BR,AJ,BQ,Az,Dw]at h
 obtain⟨_,_,rfl,rfl,⟨_,_,rfl,rfl,⟨_,_,rfl,rfl,rfl⟩⟩⟩:=h;exact rfl
theorem IE{w:World}{S:Nat->Prop}{x:Ax}:C_l05Place.rep w S x [.int .i64 x.instance_,.int .i64 x.pin_,.int .i64 x.net_,.bool x.drives_]:=by
 simp only [C_l05Place,Cq,BR,AJ,BQ,Az,Dw]
 exact⟨_,_,rfl,rfl,⟨_,_,rfl,rfl,⟨_,_,rfl,rfl,rfl⟩⟩⟩
instance:CX C_l05Place:=by unfold C_l05Place;infer_instance
structure Au where
 instance_:Int
 pin_:Int
 net_:Int
 drives_:Bool
def C_place:CN Au:=Cq (fun x=>(x.instance_,x.pin_,x.net_,x.drives_)) (BR (AJ .i64) (BR (AJ .i64) (BR (AJ .i64) BQ)))
theorem Dq{w:World}{S:Nat->Prop}{x:Au}{vs:List Value}(h:C_place.rep w S x vs):vs=[.int .i64 x.instance_,.int .i64 x.pin_,.int .i64 x.net_,.bool x.drives_]:=by
 simp only [C_place,Cq,BR,AJ,BQ,Az,Dw]at h
 obtain⟨_,_,rfl,rfl,⟨_,_,rfl,rfl,⟨_,_,rfl,rfl,rfl⟩⟩⟩:=h;exact rfl
theorem LA{w:World}{S:Nat->Prop}{x:Au}:C_place.rep w S x [.int .i64 x.instance_,.int .i64 x.pin_,.int .i64 x.net_,.bool x.drives_]:=by
 simp only [C_place,Cq,BR,AJ,BQ,Az,Dw]
 exact⟨_,_,rfl,rfl,⟨_,_,rfl,rfl,⟨_,_,rfl,rfl,rfl⟩⟩⟩
instance:CX C_place:=by unfold C_place;infer_instance
structure AS where
 From:Int
 To:Int
 Kind:Int
 Index:Int
def C_Link:CN AS:=Cq (fun x=>(x.From,x.To,x.Kind,x.Index)) (BR (AJ .i64) (BR (AJ .i64) (BR (AJ .i64) (AJ .i64))))
theorem Df{w:World}{S:Nat->Prop}{x:AS}{vs:List Value}(h:C_Link.rep w S x vs):vs=[.int .i64 x.From,.int .i64 x.To,.int .i64 x.Kind,.int .i64 x.Index]:=by
 simp only [C_Link,Cq,BR,AJ,BQ,Az,Dw]at h
 obtain⟨_,_,rfl,rfl,⟨_,_,rfl,rfl,⟨_,_,rfl,rfl,rfl⟩⟩⟩:=h;exact rfl
theorem Jq{w:World}{S:Nat->Prop}{x:AS}:C_Link.rep w S x [.int .i64 x.From,.int .i64 x.To,.int .i64 x.Kind,.int .i64 x.Index]:=by
 simp only [C_Link,Cq,BR,AJ,BQ,Az,Dw]
 exact⟨_,_,rfl,rfl,⟨_,_,rfl,rfl,⟨_,_,rfl,rfl,rfl⟩⟩⟩
instance:CX C_Link:=by unfold C_Link;infer_instance
structure BY where
 Block:AP
 places_:List Au
 links_:List AS
 loads_:List Int
 delays_:List Unit
 extras_:List Int
structure AA where
 code_:List Int
 at_:Int
 seed_:Int
structure Cg where
 view_:BY
 live_:List Bool
structure Bi where
 e0:Int
 e1:Int
def C_A2_Int:CN Bi:=Cq (fun x=>(x.e0,x.e1)) (BR (AJ .i64) (AJ .i64))
theorem Lc{w:World}{S:Nat->Prop}{x:Bi}{vs:List Value}(h:C_A2_Int.rep w S x vs):vs=[.int .i64 x.e0,.int .i64 x.e1]:=by
 simp only [C_A2_Int,Cq,BR,AJ,BQ,Az,Dw]at h
 obtain⟨_,_,rfl,rfl,rfl⟩:=h;exact rfl
theorem CI{w:World}{S:Nat->Prop}{x:Bi}:C_A2_Int.rep w S x [.int .i64 x.e0,.int .i64 x.e1]:=by
 simp only [C_A2_Int,Cq,BR,AJ,BQ,Az,Dw]
 exact⟨_,_,rfl,rfl,rfl⟩
instance:CX C_A2_Int:=by unfold C_A2_Int;infer_instance
structure FD where
 Early:Int
 Late:Int
def Vr(k:IntKind)(x:Int):Prop:=k.min<=x∧x<=k.max
theorem Vr.i64{x:Int}(h:Vr .i64 x):-9223372036854775808<=x∧x<=9223372036854775807:=h
end Go.Eng
