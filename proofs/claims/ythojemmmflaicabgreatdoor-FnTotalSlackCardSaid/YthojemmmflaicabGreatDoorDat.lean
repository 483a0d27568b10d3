/- The data of the program, as plain Lean structures, and their cells; no condition. -/
import Derived.Test.YthojemmmflaicabGreatDoorEng
set_option linter.all false
namespace Go.Eng
open Go Go.RowKit
structure CC where
 Name:ByteArray
 Dir:Int
 Cap:Int
 Clock:Bool
def C_Pin:Cv CC:=Dh (fun x=>(x.Name,x.Dir,x.Cap,x.Clock)) (Bb Ax (Bb (AI .i64) (Bb (AI .i64) Ap)))
theorem Cl{w:World}{S:Nat->Prop}{x:CC}{vs:List Value}(h:C_Pin.rep w S x vs):vs=[.string x.Name,.int .i64 x.Dir,.int .i64 x.Cap,.bool x.Clock]:=by
 simp only [C_Pin,Dh,Bb,AI,Ap,Ax,FU]at h
 obtain⟨_,_,rfl,rfl,⟨_,_,rfl,rfl,⟨_,_,rfl,rfl,rfl⟩⟩⟩:=h;exact rfl
theorem KX{w:World}{S:Nat->Prop}{x:CC}:C_Pin.rep w S x [.string x.Name,.int .i64 x.Dir,.int .i64 x.Cap,.bool x.Clock]:=by
 simp only [C_Pin,Dh,Bb,AI,Ap,Ax,FU]
 exact⟨_,_,rfl,rfl,⟨_,_,rfl,rfl,⟨_,_,rfl,rfl,rfl⟩⟩⟩
instance:DR C_Pin:=by unfold C_Pin;infer_instance
structure BR where
 Slews:List Int
 Loads:List Int
 Values:List Int
def C_Table:Cv BR:=Dh (fun x=>(x.Slews,x.Loads,x.Values)) (Bb (FU (AI .i64)) (Bb (FU (AI .i64)) (FU (AI .i64))))
theorem Gc{w:World}{S:Nat->Prop}{x:BR}{vs:List Value}(h:C_Table.rep w S x vs):∃v1 v2 v3,vs=[v1,v2,v3]∧AD (AI .i64) w S x.Slews v1∧AD (AI .i64) w S x.Loads v2∧AD (AI .i64) w S x.Values v3:=by
 simp only [C_Table,Dh,Bb,AI,Ap,Ax,FU]at h
 obtain⟨_,_,rfl,⟨v1,rfl,h1⟩,⟨_,_,rfl,⟨v2,rfl,h2⟩,⟨v3,rfl,h3⟩⟩⟩:=h;exact⟨v1,v2,v3,rfl,h1,h2,h3⟩
theorem OL{w:World}{S:Nat->Prop}{x:BR}{v1 v2 v3:Value}(h1:AD (AI .i64) w S x.Slews v1)(h2:AD (AI .i64) w S x.Loads v2)(h3:AD (AI .i64) w S x.Values v3):C_Table.rep w S x [v1,v2,v3]:=by
 simp only [C_Table,Dh,Bb,AI,Ap,Ax,FU]
 exact⟨_,_,rfl,⟨_,rfl,h1⟩,⟨_,_,rfl,⟨_,rfl,h2⟩,⟨_,rfl,h3⟩⟩⟩
structure Bg where
 Kind:Int
 From:Int
 To:Int
 Sense:Int
 Delay:List BR
 Slew:List BR
def C_Arc:Cv Bg:=Dh (fun x=>(x.Kind,x.From,x.To,x.Sense,x.Delay,x.Slew)) (Bb (AI .i64) (Bb (AI .i64) (Bb (AI .i64) (Bb (AI .i64) (Bb (FU C_Table) (FU C_Table))))))
theorem Cw{w:World}{S:Nat->Prop}{x:Bg}{vs:List Value}(h:C_Arc.rep w S x vs):∃v1 v2,vs=[.int .i64 x.Kind,.int .i64 x.From,.int .i64 x.To,.int .i64 x.Sense,v1,v2]∧AD C_Table w S x.Delay v1∧AD C_Table w S x.Slew v2:=by
 simp only [C_Arc,Dh,Bb,AI,Ap,Ax,FU]at h
 obtain⟨_,_,rfl,rfl,⟨_,_,rfl,rfl,⟨_,_,rfl,rfl,⟨_,_,rfl,rfl,⟨_,_,rfl,⟨v1,rfl,h1⟩,⟨v2,rfl,h2⟩⟩⟩⟩⟩⟩:=h;exact⟨v1,v2,rfl,h1,h2⟩
theorem KZ{w:World}{S:Nat->Prop}{x:Bg}{v1 v2:Value}(h1:AD C_Table w S x.Delay v1)(h2:AD C_Table w S x.Slew v2):C_Arc.rep w S x [.int .i64 x.Kind,.int .i64 x.From,.int .i64 x.To,.int .i64 x.Sense,v1,v2]:=by
 simp only [C_Arc,Dh,Bb,AI,Ap,Ax,FU]
 exact⟨_,_,rfl,rfl,⟨_,_,rfl,rfl,⟨_,_,rfl,rfl,⟨_,_,rfl,rfl,⟨_,_,rfl,⟨_,rfl,h1⟩,⟨_,rfl,h2⟩⟩⟩⟩⟩⟩
structure Au where
 Name:ByteArray
 Kind:Int
 Pins:List CC
 Arcs:List Bg
 Truth:List Int
 Leak:Int
 Energy:Int
def C_Cell:Cv Au:=Dh (fun x=>(x.Name,x.Kind,x.Pins,x.Arcs,x.Truth,x.Leak,x.Energy)) (Bb Ax (Bb (AI .i64) (Bb (FU C_Pin) (Bb (FU C_Arc) (Bb (FU (AI .i64)) (Bb (AI .i64) (AI .i64)))))))
theorem DJ{w:World}{S:Nat->Prop}{x:Au}{vs:List Value}(h:C_Cell.rep w S x vs):∃v1 v2 v3,vs=[.string x.Name,.int .i64 x.Kind,v1,v2,v3,.int .i64 x.Leak,.int .i64 x.Energy]∧AD C_Pin w S x.Pins v1∧AD C_Arc w S x.Arcs v2∧AD (AI .i64) w S x.Truth v3:=by
 simp only [C_Cell,Dh,Bb,AI,Ap,Ax,FU]at h
 obtain⟨_,_,rfl,rfl,⟨_,_,rfl,rfl,⟨_,_,rfl,⟨v1,rfl,h1⟩,⟨_,_,rfl,⟨v2,rfl,h2⟩,⟨_,_,rfl,⟨v3,rfl,h3⟩,⟨_,_,rfl,rfl,rfl⟩⟩⟩⟩⟩⟩:=h;exact⟨v1,v2,v3,rfl,h1,h2,h3⟩
theorem FQ{w:World}{S:Nat->Prop}{x:Au}{v1 v2 v3:Value}(h1:AD C_Pin w S x.Pins v1)(h2:AD C_Arc w S x.Arcs v2)(h3:AD (AI .i64) w S x.Truth v3):C_Cell.rep w S x [.string x.Name,.int .i64 x.Kind,v1,v2,v3,.int .i64 x.Leak,.int .i64 x.Energy]:=by
 simp only [C_Cell,Dh,Bb,AI,Ap,Ax,FU]
 exact⟨_,_,rfl,rfl,⟨_,_,rfl,rfl,⟨_,_,rfl,⟨_,rfl,h1⟩,⟨_,_,rfl,⟨_,rfl,h2⟩,⟨_,_,rfl,⟨_,rfl,h3⟩,⟨_,_,rfl,rfl,rfl⟩⟩⟩⟩⟩⟩
structure BA where
 Cells:List Au
structure Av where
 Name:ByteArray
 Cell:Int
 Nets:List Int
def C_Instance:Cv Av:=Dh (fun x=>(x.Name,x.Cell,x.Nets)) (Bb Ax (Bb (AI .i64) (FU (AI .i64))))
theorem Bk{w:World}{S:Nat->Prop}{x:Av}{vs:List Value}(h:C_Instance.rep w S x vs):∃v1,vs=[.string x.Name,.int .i64 x.Cell,v1]∧AD (AI .i64) w S x.Nets v1:=by
 simp only [C_Instance,Dh,Bb,AI,Ap,Ax,FU]at h
 obtain⟨_,_,rfl,rfl,⟨_,_,rfl,rfl,⟨v1,rfl,h1⟩⟩⟩:=h;exact⟨v1,rfl,h1⟩
theorem OW{w:World}{S:Nat->Prop}{x:Av}{v1:Value}(h1:AD (AI .i64) w S x.Nets v1):C_Instance.rep w S x [.string x.Name,.int .i64 x.Cell,v1]:=by
 simp only [C_Instance,Dh,Bb,AI,Ap,Ax,FU]
 exact⟨_,_,rfl,rfl,⟨_,_,rfl,rfl,⟨_,rfl,h1⟩⟩⟩
def Gf(x y:Av):Prop:=x.Name=y.Name∧True∧FZ (fun _ _=>True) x.Nets y.Nets
instance:Pi C_Instance Gf:=Pi.map (β:=Av) (c:=(Bb Ax (Bb (AI .i64) (FU (AI .i64))))) (fun x=>(x.Name,x.Cell,x.Nets)) (fun p=>⟨p.1,p.2.1,p.2.2⟩) (fun _=>rfl)
structure CO where
 Name:ByteArray
 Dir:Int
 Net:Int
def C_Port:Cv CO:=Dh (fun x=>(x.Name,x.Dir,x.Net)) (Bb Ax (Bb (AI .i64) (AI .i64)))
theorem DM{w:World}{S:Nat->Prop}{x:CO}{vs:List Value}(h:C_Port.rep w S x vs):vs=[.string x.Name,.int .i64 x.Dir,.int .i64 x.Net]:=by
 simp only [C_Port,Dh,Bb,AI,Ap,Ax,FU]at h
 obtain⟨_,_,rfl,rfl,⟨_,_,rfl,rfl,rfl⟩⟩:=h;exact rfl
theorem IA{w:World}{S:Nat->Prop}{x:CO}:C_Port.rep w S x [.string x.Name,.int .i64 x.Dir,.int .i64 x.Net]:=by
 simp only [C_Port,Dh,Bb,AI,Ap,Ax,FU]
 exact⟨_,_,rfl,rfl,⟨_,_,rfl,rfl,rfl⟩⟩
instance:DR C_Port:=by unfold C_Port;infer_instance
def Pr(x y:CO):Prop:=x.Name=y.Name∧True∧True
instance:Pi C_Port Pr:=Pi.map (β:=CO) (c:=(Bb Ax (Bb (AI .i64) (AI .i64)))) (fun x=>(x.Name,x.Dir,x.Net)) (fun p=>⟨p.1,p.2.1,p.2.2⟩) (fun _=>rfl)
structure AY where
 Instances:List Av
 Nets:List ByteArray
 Ports:List CO
structure BX where
 Parent:List Int
 Res:List Int
 Cap:List Int
 Sink:List Int
def C_Wire:Cv BX:=Dh (fun x=>(x.Parent,x.Res,x.Cap,x.Sink)) (Bb (FU (AI .i64)) (Bb (FU (AI .i64)) (Bb (FU (AI .i64)) (FU (AI .i64)))))
theorem CE{w:World}{S:Nat->Prop}{x:BX}{vs:List Value}(h:C_Wire.rep w S x vs):∃v1 v2 v3 v4,vs=[v1,v2,v3,v4]∧AD (AI .i64) w S x.Parent v1∧AD (AI .i64) w S x.Res v2∧AD (AI .i64) w S x.Cap v3∧AD (AI .i64) w S x.Sink v4:=by
 simp only [C_Wire,Dh,Bb,AI,Ap,Ax,FU]at h
 obtain⟨_,_,rfl,⟨v1,rfl,h1⟩,⟨_,_,rfl,⟨v2,rfl,h2⟩,⟨_,_,rfl,⟨v3,rfl,h3⟩,⟨v4,rfl,h4⟩⟩⟩⟩:=h;exact⟨v1,v2,v3,v4,rfl,h1,h2,h3,h4⟩
theorem Ms{w:World}{S:Nat->Prop}{x:BX}{v1 v2 v3 v4:Value}(h1:AD (AI .i64) w S x.Parent v1)(h2:AD (AI .i64) w S x.Res v2)(h3:AD (AI .i64) w S x.Cap v3)(h4:AD (AI .i64) w S x.Sink v4):C_Wire.rep w S x [v1,v2,v3,v4]:=by
 simp only [C_Wire,Dh,Bb,AI,Ap,Ax,FU]
 exact⟨_,_,rfl,⟨_,rfl,h1⟩,⟨_,_,rfl,⟨_,rfl,h2⟩,⟨_,_,rfl,⟨_,rfl,h3⟩,⟨_,rfl,h4⟩⟩⟩⟩
def Gu(x y:BX):Prop:=FZ (fun _ _=>True) x.Parent y.Parent∧FZ (fun _ _=>True) x.Res y.Res∧FZ (fun _ _=>True) x.Cap y.Cap∧FZ (fun _ _=>True) x.Sink y.Sink
instance:Pi C_Wire Gu:=Pi.map (β:=BX) (c:=(Bb (FU (AI .i64)) (Bb (FU (AI .i64)) (Bb (FU (AI .i64)) (FU (AI .i64)))))) (fun x=>(x.Parent,x.Res,x.Cap,x.Sink)) (fun p=>⟨p.1,p.2.1,p.2.2.1,p.2.2.2⟩) (fun _=>rfl)
structure AG where
 Library:BA
 Design:AY
 Wires:List BX
structure Ae where
 Early:Int
 Late:Int
def C_Span:Cv Ae:=Dh (fun x=>(x.Early,x.Late)) (Bb (AI .i64) (AI .i64))
theorem BG{w:World}{S:Nat->Prop}{x:Ae}{vs:List Value}(h:C_Span.rep w S x vs):vs=[.int .i64 x.Early,.int .i64 x.Late]:=by
 simp only [C_Span,Dh,Bb,AI,Ap,Ax,FU]at h
 obtain⟨_,_,rfl,rfl,rfl⟩:=h;exact rfl
theorem Bh{w:World}{S:Nat->Prop}{x:Ae}:C_Span.rep w S x [.int .i64 x.Early,.int .i64 x.Late]:=by
 simp only [C_Span,Dh,Bb,AI,Ap,Ax,FU]
 exact⟨_,_,rfl,rfl,rfl⟩
instance:DR C_Span:=by unfold C_Span;infer_instance
structure Ad where
 Reached:List Bool
 Arrival:List Ae
 Slew:List Ae
structure BB where
 Bound:List Bool
 Required:List Ae
structure Aj where
 Node:Int
 Required:Ae
def C_Target:Cv Aj:=Dh (fun x=>(x.Node,x.Required)) (Bb (AI .i64) C_Span)
theorem Bs{w:World}{S:Nat->Prop}{x:Aj}{vs:List Value}(h:C_Target.rep w S x vs):vs=[.int .i64 x.Node,.int .i64 x.Required.Early,.int .i64 x.Required.Late]:=by
 simp only [C_Target,Dh,Bb,AI,Ap,Ax,FU,C_Span]at h
 obtain⟨_,_,rfl,rfl,⟨_,_,rfl,rfl,rfl⟩⟩:=h;exact rfl
theorem HV{w:World}{S:Nat->Prop}{x:Aj}:C_Target.rep w S x [.int .i64 x.Node,.int .i64 x.Required.Early,.int .i64 x.Required.Late]:=by
 simp only [C_Target,Dh,Bb,AI,Ap,Ax,FU,C_Span]
 exact⟨_,_,rfl,rfl,⟨_,_,rfl,rfl,rfl⟩⟩
instance:DR C_Target:=by unfold C_Target;infer_instance
structure Ay where
 Name:ByteArray
 CellEarly:Int
 CellLate:Int
 WireEarly:Int
 WireLate:Int
structure AA where
 code_:List Int
 at_:Int
 seed_:Int
structure BJ where
 instance_:Int
 pin_:Int
 net_:Int
 drives_:Bool
def C_l05Place:Cv BJ:=Dh (fun x=>(x.instance_,x.pin_,x.net_,x.drives_)) (Bb (AI .i64) (Bb (AI .i64) (Bb (AI .i64) Ap)))
theorem Be{w:World}{S:Nat->Prop}{x:BJ}{vs:List Value}(h:C_l05Place.rep w S x vs):vs=[.int .i64 x.instance_,.int .i64 x.pin_,.int .i64 x.net_,.bool x.drives_]:=by
 simp only [C_l05Place,Dh,Bb,AI,Ap,Ax,FU]at h
 obtain⟨_,_,rfl,rfl,⟨_,_,rfl,rfl,⟨_,_,rfl,rfl,rfl⟩⟩⟩:=h;exact rfl
theorem LM{w:World}{S:Nat->Prop}{x:BJ}:C_l05Place.rep w S x [.int .i64 x.instance_,.int .i64 x.pin_,.int .i64 x.net_,.bool x.drives_]:=by
 simp only [C_l05Place,Dh,Bb,AI,Ap,Ax,FU]
 exact⟨_,_,rfl,rfl,⟨_,_,rfl,rfl,⟨_,_,rfl,rfl,rfl⟩⟩⟩
instance:DR C_l05Place:=by unfold C_l05Place;infer_instance
structure BF where
 instance_:Int
 pin_:Int
 net_:Int
 drives_:Bool
def C_place:Cv BF:=Dh (fun x=>(x.instance_,x.pin_,x.net_,x.drives_)) (Bb (AI .i64) (Bb (AI .i64) (Bb (AI .i64) Ap)))
theorem Gj{w:World}{S:Nat->Prop}{x:BF}{vs:List Value}(h:C_place.rep w S x vs):vs=[.int .i64 x.instance_,.int .i64 x.pin_,.int .i64 x.net_,.bool x.drives_]:=by
 simp only [C_place,Dh,Bb,AI,Ap,Ax,FU]at h
 obtain⟨_,_,rfl,rfl,⟨_,_,rfl,rfl,⟨_,_,rfl,rfl,rfl⟩⟩⟩:=h;exact rfl
theorem OD{w:World}{S:Nat->Prop}{x:BF}:C_place.rep w S x [.int .i64 x.instance_,.int .i64 x.pin_,.int .i64 x.net_,.bool x.drives_]:=by
 simp only [C_place,Dh,Bb,AI,Ap,Ax,FU]
 exact⟨_,_,rfl,rfl,⟨_,_,rfl,rfl,⟨_,_,rfl,rfl,rfl⟩⟩⟩
instance:DR C_place:=by unfold C_place;infer_instance
structure AS where
 From:Int
 To:Int
 Kind:Int
 Index:Int
def C_Link:Cv AS:=Dh (fun x=>(x.From,x.To,x.Kind,x.Index)) (Bb (AI .i64) (Bb (AI .i64) (Bb (AI .i64) (AI .i64))))
theorem DK{w:World}{S:Nat->Prop}{x:AS}{vs:List Value}(h:C_Link.rep w S x vs):vs=[.int .i64 x.From,.int .i64 x.To,.int .i64 x.Kind,.int .i64 x.Index]:=by
 simp only [C_Link,Dh,Bb,AI,Ap,Ax,FU]at h
 obtain⟨_,_,rfl,rfl,⟨_,_,rfl,rfl,⟨_,_,rfl,rfl,rfl⟩⟩⟩:=h;exact rfl
theorem Mq{w:World}{S:Nat->Prop}{x:AS}:C_Link.rep w S x [.int .i64 x.From,.int .i64 x.To,.int .i64 x.Kind,.int .i64 x.Index]:=by
 simp only [C_Link,Dh,Bb,AI,Ap,Ax,FU]
 exact⟨_,_,rfl,rfl,⟨_,_,rfl,rfl,⟨_,_,rfl,rfl,rfl⟩⟩⟩
instance:DR C_Link:=by unfold C_Link;infer_instance
structure Bz where
 Block:AG
 places_:List BF
 links_:List AS
 loads_:List Int
 delays_:List Unit
 extras_:List Int
structure Aq where
 Node:Int
 Arrival:Ae
 Slew:Ae
def C_Source:Cv Aq:=Dh (fun x=>(x.Node,x.Arrival,x.Slew)) (Bb (AI .i64) (Bb C_Span C_Span))
theorem CM{w:World}{S:Nat->Prop}{x:Aq}{vs:List Value}(h:C_Source.rep w S x vs):vs=[.int .i64 x.Node,.int .i64 x.Arrival.Early,.int .i64 x.Arrival.Late,.int .i64 x.Slew.Early,.int .i64 x.Slew.Late]:=by
 simp only [C_Source,Dh,Bb,AI,Ap,Ax,FU,C_Span,C_Span]at h
 obtain⟨_,_,rfl,rfl,⟨_,_,rfl,⟨_,_,rfl,rfl,rfl⟩,⟨_,_,rfl,rfl,rfl⟩⟩⟩:=h;exact rfl
theorem GP{w:World}{S:Nat->Prop}{x:Aq}:C_Source.rep w S x [.int .i64 x.Node,.int .i64 x.Arrival.Early,.int .i64 x.Arrival.Late,.int .i64 x.Slew.Early,.int .i64 x.Slew.Late]:=by
 simp only [C_Source,Dh,Bb,AI,Ap,Ax,FU,C_Span,C_Span]
 exact⟨_,_,rfl,rfl,⟨_,_,rfl,⟨_,_,rfl,rfl,rfl⟩,⟨_,_,rfl,rfl,rfl⟩⟩⟩
instance:DR C_Source:=by unfold C_Source;infer_instance
structure Cb where
 e0:Int
 e1:Int
def C_A2_Int:Cv Cb:=Dh (fun x=>(x.e0,x.e1)) (Bb (AI .i64) (AI .i64))
theorem Og{w:World}{S:Nat->Prop}{x:Cb}{vs:List Value}(h:C_A2_Int.rep w S x vs):vs=[.int .i64 x.e0,.int .i64 x.e1]:=by
 simp only [C_A2_Int,Dh,Bb,AI,Ap,Ax,FU]at h
 obtain⟨_,_,rfl,rfl,rfl⟩:=h;exact rfl
theorem Cz{w:World}{S:Nat->Prop}{x:Cb}:C_A2_Int.rep w S x [.int .i64 x.e0,.int .i64 x.e1]:=by
 simp only [C_A2_Int,Dh,Bb,AI,Ap,Ax,FU]
 exact⟨_,_,rfl,rfl,rfl⟩
instance:DR C_A2_Int:=by unfold C_A2_Int;infer_instance
def cC(k:IntKind)(x:Int):Prop:=k.min<=x∧x<=k.max
theorem cC.i64{x:Int}(h:cC .i64 x):-9223372036854775808<=x∧x<=9223372036854775807:=h
end Go.Eng
