/- The data of the program, as plain Lean structures, and their cells; no condition. -/
import Derived.Test.YthojemmmflaicadGreatDoorEng
set_option linter.all false
namespace Go.Eng
open Go Go.RowKit
structure Bz where
 Name:ByteArray
 Dir:Int
 Cap:Int
 Clock:Bool
def C_Pin:Cq Bz:=Dg (fun x=>(x.Name,x.Dir,x.Cap,x.Clock)) (BZ Au (BZ (AH .i64) (BZ (AH .i64) Ar)))
theorem Cf{w:World}{S:Nat->Prop}{x:Bz}{vs:List Value}(h:C_Pin.rep w S x vs):vs=[.string x.Name,.int .i64 x.Dir,.int .i64 x.Cap,.bool x.Clock]:=by
 simp only [C_Pin,Dg,BZ,AH,Ar,Au,FR]at h
 obtain⟨_,_,rfl,rfl,⟨_,_,rfl,rfl,⟨_,_,rfl,rfl,rfl⟩⟩⟩:=h;exact rfl
theorem Kk{w:World}{S:Nat->Prop}{x:Bz}:C_Pin.rep w S x [.string x.Name,.int .i64 x.Dir,.int .i64 x.Cap,.bool x.Clock]:=by
 simp only [C_Pin,Dg,BZ,AH,Ar,Au,FR]
 exact⟨_,_,rfl,rfl,⟨_,_,rfl,rfl,⟨_,_,rfl,rfl,rfl⟩⟩⟩
instance:DM C_Pin:=by unfold C_Pin;infer_instance
structure BR where
 Slews:List Int
 Loads:List Int
 Values:List Int
def C_Table:Cq BR:=Dg (fun x=>(x.Slews,x.Loads,x.Values)) (BZ (FR (AH .i64)) (BZ (FR (AH .i64)) (FR (AH .i64))))
theorem Gi{w:World}{S:Nat->Prop}{x:BR}{vs:List Value}(h:C_Table.rep w S x vs):∃v1 v2 v3,vs=[v1,v2,v3]∧AD (AH .i64) w S x.Slews v1∧AD (AH .i64) w S x.Loads v2∧AD (AH .i64) w S x.Values v3:=by
 simp only [C_Table,Dg,BZ,AH,Ar,Au,FR]at h
 obtain⟨_,_,rfl,⟨v1,rfl,h1⟩,⟨_,_,rfl,⟨v2,rfl,h2⟩,⟨v3,rfl,h3⟩⟩⟩:=h;exact⟨v1,v2,v3,rfl,h1,h2,h3⟩
theorem Ny{w:World}{S:Nat->Prop}{x:BR}{v1 v2 v3:Value}(h1:AD (AH .i64) w S x.Slews v1)(h2:AD (AH .i64) w S x.Loads v2)(h3:AD (AH .i64) w S x.Values v3):C_Table.rep w S x [v1,v2,v3]:=by
 simp only [C_Table,Dg,BZ,AH,Ar,Au,FR]
 exact⟨_,_,rfl,⟨_,rfl,h1⟩,⟨_,_,rfl,⟨_,rfl,h2⟩,⟨_,rfl,h3⟩⟩⟩
structure Bf where
 Kind:Int
 From:Int
 To:Int
 Sense:Int
 Delay:List BR
 Slew:List BR
def C_Arc:Cq Bf:=Dg (fun x=>(x.Kind,x.From,x.To,x.Sense,x.Delay,x.Slew)) (BZ (AH .i64) (BZ (AH .i64) (BZ (AH .i64) (BZ (AH .i64) (BZ (FR C_Table) (FR C_Table))))))
theorem Cm{w:World}{S:Nat->Prop}{x:Bf}{vs:List Value}(h:C_Arc.rep w S x vs):∃v1 v2,vs=[.int .i64 x.Kind,.int .i64 x.From,.int .i64 x.To,.int .i64 x.Sense,v1,v2]∧AD C_Table w S x.Delay v1∧AD C_Table w S x.Slew v2:=by
 simp only [C_Arc,Dg,BZ,AH,Ar,Au,FR]at h
 obtain⟨_,_,rfl,rfl,⟨_,_,rfl,rfl,⟨_,_,rfl,rfl,⟨_,_,rfl,rfl,⟨_,_,rfl,⟨v1,rfl,h1⟩,⟨v2,rfl,h2⟩⟩⟩⟩⟩⟩:=h;exact⟨v1,v2,rfl,h1,h2⟩
theorem KA{w:World}{S:Nat->Prop}{x:Bf}{v1 v2:Value}(h1:AD C_Table w S x.Delay v1)(h2:AD C_Table w S x.Slew v2):C_Arc.rep w S x [.int .i64 x.Kind,.int .i64 x.From,.int .i64 x.To,.int .i64 x.Sense,v1,v2]:=by
 simp only [C_Arc,Dg,BZ,AH,Ar,Au,FR]
 exact⟨_,_,rfl,rfl,⟨_,_,rfl,rfl,⟨_,_,rfl,rfl,⟨_,_,rfl,rfl,⟨_,_,rfl,⟨_,rfl,h1⟩,⟨_,rfl,h2⟩⟩⟩⟩⟩⟩
structure At where
 Name:ByteArray
 Kind:Int
 Pins:List Bz
 Arcs:List Bf
 Truth:List Int
 Leak:Int
 Energy:Int
def C_Cell:Cq At:=Dg (fun x=>(x.Name,x.Kind,x.Pins,x.Arcs,x.Truth,x.Leak,x.Energy)) (BZ Au (BZ (AH .i64) (BZ (FR C_Pin) (BZ (FR C_Arc) (BZ (FR (AH .i64)) (BZ (AH .i64) (AH .i64)))))))
theorem DH{w:World}{S:Nat->Prop}{x:At}{vs:List Value}(h:C_Cell.rep w S x vs):∃v1 v2 v3,vs=[.string x.Name,.int .i64 x.Kind,v1,v2,v3,.int .i64 x.Leak,.int .i64 x.Energy]∧AD C_Pin w S x.Pins v1∧AD C_Arc w S x.Arcs v2∧AD (AH .i64) w S x.Truth v3:=by
 simp only [C_Cell,Dg,BZ,AH,Ar,Au,FR]at h
 obtain⟨_,_,rfl,rfl,⟨_,_,rfl,rfl,⟨_,_,rfl,⟨v1,rfl,h1⟩,⟨_,_,rfl,⟨v2,rfl,h2⟩,⟨_,_,rfl,⟨v3,rfl,h3⟩,⟨_,_,rfl,rfl,rfl⟩⟩⟩⟩⟩⟩:=h;exact⟨v1,v2,v3,rfl,h1,h2,h3⟩
theorem FL{w:World}{S:Nat->Prop}{x:At}{v1 v2 v3:Value}(h1:AD C_Pin w S x.Pins v1)(h2:AD C_Arc w S x.Arcs v2)(h3:AD (AH .i64) w S x.Truth v3):C_Cell.rep w S x [.string x.Name,.int .i64 x.Kind,v1,v2,v3,.int .i64 x.Leak,.int .i64 x.Energy]:=by
 simp only [C_Cell,Dg,BZ,AH,Ar,Au,FR]
 exact⟨_,_,rfl,rfl,⟨_,_,rfl,rfl,⟨_,_,rfl,⟨_,rfl,h1⟩,⟨_,_,rfl,⟨_,rfl,h2⟩,⟨_,_,rfl,⟨_,rfl,h3⟩,⟨_,_,rfl,rfl,rfl⟩⟩⟩⟩⟩⟩
structure Az where
 Cells:List At
structure Av where
 Name:ByteArray
 Cell:Int
 Nets:List Int
def C_Instance:Cq Av:=Dg (fun x=>(x.Name,x.Cell,x.Nets)) (BZ Au (BZ (AH .i64) (FR (AH .i64))))
theorem Bi{w:World}{S:Nat->Prop}{x:Av}{vs:List Value}(h:C_Instance.rep w S x vs):∃v1,vs=[.string x.Name,.int .i64 x.Cell,v1]∧AD (AH .i64) w S x.Nets v1:=by
 simp only [C_Instance,Dg,BZ,AH,Ar,Au,FR]at h
 obtain⟨_,_,rfl,rfl,⟨_,_,rfl,rfl,⟨v1,rfl,h1⟩⟩⟩:=h;exact⟨v1,rfl,h1⟩
theorem Ov{w:World}{S:Nat->Prop}{x:Av}{v1:Value}(h1:AD (AH .i64) w S x.Nets v1):C_Instance.rep w S x [.string x.Name,.int .i64 x.Cell,v1]:=by
 simp only [C_Instance,Dg,BZ,AH,Ar,Au,FR]
 exact⟨_,_,rfl,rfl,⟨_,_,rfl,rfl,⟨_,rfl,h1⟩⟩⟩
def Gh(x y:Av):Prop:=x.Name=y.Name∧True∧FX (fun _ _=>True) x.Nets y.Nets
instance:QE C_Instance Gh:=QE.map (β:=Av) (c:=(BZ Au (BZ (AH .i64) (FR (AH .i64))))) (fun x=>(x.Name,x.Cell,x.Nets)) (fun p=>⟨p.1,p.2.1,p.2.2⟩) (fun _=>rfl)
structure CI where
 Name:ByteArray
 Dir:Int
 Net:Int
def C_Port:Cq CI:=Dg (fun x=>(x.Name,x.Dir,x.Net)) (BZ Au (BZ (AH .i64) (AH .i64)))
theorem DG{w:World}{S:Nat->Prop}{x:CI}{vs:List Value}(h:C_Port.rep w S x vs):vs=[.string x.Name,.int .i64 x.Dir,.int .i64 x.Net]:=by
 simp only [C_Port,Dg,BZ,AH,Ar,Au,FR]at h
 obtain⟨_,_,rfl,rfl,⟨_,_,rfl,rfl,rfl⟩⟩:=h;exact rfl
theorem IS{w:World}{S:Nat->Prop}{x:CI}:C_Port.rep w S x [.string x.Name,.int .i64 x.Dir,.int .i64 x.Net]:=by
 simp only [C_Port,Dg,BZ,AH,Ar,Au,FR]
 exact⟨_,_,rfl,rfl,⟨_,_,rfl,rfl,rfl⟩⟩
instance:DM C_Port:=by unfold C_Port;infer_instance
def RH(x y:CI):Prop:=x.Name=y.Name∧True∧True
instance:QE C_Port RH:=QE.map (β:=CI) (c:=(BZ Au (BZ (AH .i64) (AH .i64)))) (fun x=>(x.Name,x.Dir,x.Net)) (fun p=>⟨p.1,p.2.1,p.2.2⟩) (fun _=>rfl)
structure AX where
 Instances:List Av
 Nets:List ByteArray
 Ports:List CI
structure BW where
 Parent:List Int
 Res:List Int
 Cap:List Int
 Sink:List Int
def C_Wire:Cq BW:=Dg (fun x=>(x.Parent,x.Res,x.Cap,x.Sink)) (BZ (FR (AH .i64)) (BZ (FR (AH .i64)) (BZ (FR (AH .i64)) (FR (AH .i64)))))
theorem CA{w:World}{S:Nat->Prop}{x:BW}{vs:List Value}(h:C_Wire.rep w S x vs):∃v1 v2 v3 v4,vs=[v1,v2,v3,v4]∧AD (AH .i64) w S x.Parent v1∧AD (AH .i64) w S x.Res v2∧AD (AH .i64) w S x.Cap v3∧AD (AH .i64) w S x.Sink v4:=by
 simp only [C_Wire,Dg,BZ,AH,Ar,Au,FR]at h
 obtain⟨_,_,rfl,⟨v1,rfl,h1⟩,⟨_,_,rfl,⟨v2,rfl,h2⟩,⟨_,_,rfl,⟨v3,rfl,h3⟩,⟨v4,rfl,h4⟩⟩⟩⟩:=h;exact⟨v1,v2,v3,v4,rfl,h1,h2,h3,h4⟩
theorem Mr{w:World}{S:Nat->Prop}{x:BW}{v1 v2 v3 v4:Value}(h1:AD (AH .i64) w S x.Parent v1)(h2:AD (AH .i64) w S x.Res v2)(h3:AD (AH .i64) w S x.Cap v3)(h4:AD (AH .i64) w S x.Sink v4):C_Wire.rep w S x [v1,v2,v3,v4]:=by
 simp only [C_Wire,Dg,BZ,AH,Ar,Au,FR]
 exact⟨_,_,rfl,⟨_,rfl,h1⟩,⟨_,_,rfl,⟨_,rfl,h2⟩,⟨_,_,rfl,⟨_,rfl,h3⟩,⟨_,rfl,h4⟩⟩⟩⟩
def Gw(x y:BW):Prop:=FX (fun _ _=>True) x.Parent y.Parent∧FX (fun _ _=>True) x.Res y.Res∧FX (fun _ _=>True) x.Cap y.Cap∧FX (fun _ _=>True) x.Sink y.Sink
instance:QE C_Wire Gw:=QE.map (β:=BW) (c:=(BZ (FR (AH .i64)) (BZ (FR (AH .i64)) (BZ (FR (AH .i64)) (FR (AH .i64)))))) (fun x=>(x.Parent,x.Res,x.Cap,x.Sink)) (fun p=>⟨p.1,p.2.1,p.2.2.1,p.2.2.2⟩) (fun _=>rfl)
structure AF where
 Library:Az
 Design:AX
 Wires:List BW
structure Ay where
 Name:ByteArray
 CellEarly:Int
 CellLate:Int
 WireEarly:Int
 WireLate:Int
structure Ad where
 Early:Int
 Late:Int
def C_Span:Cq Ad:=Dg (fun x=>(x.Early,x.Late)) (BZ (AH .i64) (AH .i64))
theorem BP{w:World}{S:Nat->Prop}{x:Ad}{vs:List Value}(h:C_Span.rep w S x vs):vs=[.int .i64 x.Early,.int .i64 x.Late]:=by
 simp only [C_Span,Dg,BZ,AH,Ar,Au,FR]at h
 obtain⟨_,_,rfl,rfl,rfl⟩:=h;exact rfl
theorem Bm{w:World}{S:Nat->Prop}{x:Ad}:C_Span.rep w S x [.int .i64 x.Early,.int .i64 x.Late]:=by
 simp only [C_Span,Dg,BZ,AH,Ar,Au,FR]
 exact⟨_,_,rfl,rfl,rfl⟩
instance:DM C_Span:=by unfold C_Span;infer_instance
structure Ah where
 Reached:List Bool
 Arrival:List Ad
 Slew:List Ad
structure BC where
 Bound:List Bool
 Required:List Ad
structure Al where
 Node:Int
 Required:Ad
def C_Target:Cq Al:=Dg (fun x=>(x.Node,x.Required)) (BZ (AH .i64) C_Span)
theorem CH{w:World}{S:Nat->Prop}{x:Al}{vs:List Value}(h:C_Target.rep w S x vs):vs=[.int .i64 x.Node,.int .i64 x.Required.Early,.int .i64 x.Required.Late]:=by
 simp only [C_Target,Dg,BZ,AH,Ar,Au,FR,C_Span]at h
 obtain⟨_,_,rfl,rfl,⟨_,_,rfl,rfl,rfl⟩⟩:=h;exact rfl
theorem HX{w:World}{S:Nat->Prop}{x:Al}:C_Target.rep w S x [.int .i64 x.Node,.int .i64 x.Required.Early,.int .i64 x.Required.Late]:=by
 simp only [C_Target,Dg,BZ,AH,Ar,Au,FR,C_Span]
 exact⟨_,_,rfl,rfl,⟨_,_,rfl,rfl,rfl⟩⟩
instance:DM C_Target:=by unfold C_Target;infer_instance
structure AA where
 code_:List Int
 at_:Int
 seed_:Int
structure BI where
 instance_:Int
 pin_:Int
 net_:Int
 drives_:Bool
def C_l05Place:Cq BI:=Dg (fun x=>(x.instance_,x.pin_,x.net_,x.drives_)) (BZ (AH .i64) (BZ (AH .i64) (BZ (AH .i64) Ar)))
theorem Be{w:World}{S:Nat->Prop}{x:BI}{vs:List Value}(h:C_l05Place.rep w S x vs):vs=[.int .i64 x.instance_,.int .i64 x.pin_,.int .i64 x.net_,.bool x.drives_]:=by
 simp only [C_l05Place,Dg,BZ,AH,Ar,Au,FR]at h
 obtain⟨_,_,rfl,rfl,⟨_,_,rfl,rfl,⟨_,_,rfl,rfl,rfl⟩⟩⟩:=h;exact rfl
theorem LH{w:World}{S:Nat->Prop}{x:BI}:C_l05Place.rep w S x [.int .i64 x.instance_,.int .i64 x.pin_,.int .i64 x.net_,.bool x.drives_]:=by
 simp only [C_l05Place,Dg,BZ,AH,Ar,Au,FR]
 exact⟨_,_,rfl,rfl,⟨_,_,rfl,rfl,⟨_,_,rfl,rfl,rfl⟩⟩⟩
instance:DM C_l05Place:=by unfold C_l05Place;infer_instance
structure Ap where
 Node:Int
 Arrival:Ad
 Slew:Ad
def C_Source:Cq Ap:=Dg (fun x=>(x.Node,x.Arrival,x.Slew)) (BZ (AH .i64) (BZ C_Span C_Span))
theorem CG{w:World}{S:Nat->Prop}{x:Ap}{vs:List Value}(h:C_Source.rep w S x vs):vs=[.int .i64 x.Node,.int .i64 x.Arrival.Early,.int .i64 x.Arrival.Late,.int .i64 x.Slew.Early,.int .i64 x.Slew.Late]:=by
 simp only [C_Source,Dg,BZ,AH,Ar,Au,FR,C_Span,C_Span]at h
 obtain⟨_,_,rfl,rfl,⟨_,_,rfl,⟨_,_,rfl,rfl,rfl⟩,⟨_,_,rfl,rfl,rfl⟩⟩⟩:=h;exact rfl
theorem GM{w:World}{S:Nat->Prop}{x:Ap}:C_Source.rep w S x [.int .i64 x.Node,.int .i64 x.Arrival.Early,.int .i64 x.Arrival.Late,.int .i64 x.Slew.Early,.int .i64 x.Slew.Late]:=by
 simp only [C_Source,Dg,BZ,AH,Ar,Au,FR,C_Span,C_Span]
 exact⟨_,_,rfl,rfl,⟨_,_,rfl,⟨_,_,rfl,rfl,rfl⟩,⟨_,_,rfl,rfl,rfl⟩⟩⟩
instance:DM C_Source:=by unfold C_Source;infer_instance
structure BD where
 instance_:Int
 pin_:Int
 net_:Int
 drives_:Bool
def C_place:Cq BD:=Dg (fun x=>(x.instance_,x.pin_,x.net_,x.drives_)) (BZ (AH .i64) (BZ (AH .i64) (BZ (AH .i64) Ar)))
theorem Gl{w:World}{S:Nat->Prop}{x:BD}{vs:List Value}(h:C_place.rep w S x vs):vs=[.int .i64 x.instance_,.int .i64 x.pin_,.int .i64 x.net_,.bool x.drives_]:=by
 simp only [C_place,Dg,BZ,AH,Ar,Au,FR]at h
 obtain⟨_,_,rfl,rfl,⟨_,_,rfl,rfl,⟨_,_,rfl,rfl,rfl⟩⟩⟩:=h;exact rfl
theorem OD{w:World}{S:Nat->Prop}{x:BD}:C_place.rep w S x [.int .i64 x.instance_,.int .i64 x.pin_,.int .i64 x.net_,.bool x.drives_]:=by
 simp only [C_place,Dg,BZ,AH,Ar,Au,FR]
 exact⟨_,_,rfl,rfl,⟨_,_,rfl,rfl,⟨_,_,rfl,rfl,rfl⟩⟩⟩
instance:DM C_place:=by unfold C_place;infer_instance
structure AR where
 From:Int
 To:Int
 Kind:Int
 Index:Int
def C_Link:Cq AR:=Dg (fun x=>(x.From,x.To,x.Kind,x.Index)) (BZ (AH .i64) (BZ (AH .i64) (BZ (AH .i64) (AH .i64))))
theorem DF{w:World}{S:Nat->Prop}{x:AR}{vs:List Value}(h:C_Link.rep w S x vs):vs=[.int .i64 x.From,.int .i64 x.To,.int .i64 x.Kind,.int .i64 x.Index]:=by
 simp only [C_Link,Dg,BZ,AH,Ar,Au,FR]at h
 obtain⟨_,_,rfl,rfl,⟨_,_,rfl,rfl,⟨_,_,rfl,rfl,rfl⟩⟩⟩:=h;exact rfl
theorem Mz{w:World}{S:Nat->Prop}{x:AR}:C_Link.rep w S x [.int .i64 x.From,.int .i64 x.To,.int .i64 x.Kind,.int .i64 x.Index]:=by
 simp only [C_Link,Dg,BZ,AH,Ar,Au,FR]
 exact⟨_,_,rfl,rfl,⟨_,_,rfl,rfl,⟨_,_,rfl,rfl,rfl⟩⟩⟩
instance:DM C_Link:=by unfold C_Link;infer_instance
structure Bs where
 Block:AF
 places_:List BD
 links_:List AR
 loads_:List Int
 delays_:List Unit
 extras_:List Int
structure Cc where
 e0:Int
 e1:Int
def C_A2_Int:Cq Cc:=Dg (fun x=>(x.e0,x.e1)) (BZ (AH .i64) (AH .i64))
theorem Om{w:World}{S:Nat->Prop}{x:Cc}{vs:List Value}(h:C_A2_Int.rep w S x vs):vs=[.int .i64 x.e0,.int .i64 x.e1]:=by
 simp only [C_A2_Int,Dg,BZ,AH,Ar,Au,FR]at h
 obtain⟨_,_,rfl,rfl,rfl⟩:=h;exact rfl
theorem Cu{w:World}{S:Nat->Prop}{x:Cc}:C_A2_Int.rep w S x [.int .i64 x.e0,.int .i64 x.e1]:=by
 simp only [C_A2_Int,Dg,BZ,AH,Ar,Au,FR]
 exact⟨_,_,rfl,rfl,rfl⟩
instance:DM C_A2_Int:=by unfold C_A2_Int;infer_instance
def dD(k:IntKind)(x:Int):Prop:=k.min<=x∧x<=k.max
theorem dD.i64{x:Int}(h:dD .i64 x):-9223372036854775808<=x∧x<=9223372036854775807:=h
end Go.Eng
