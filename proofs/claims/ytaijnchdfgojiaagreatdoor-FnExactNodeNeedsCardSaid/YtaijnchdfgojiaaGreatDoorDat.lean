/- The data of the program, as plain Lean structures, and their cells; no condition. -/
import Derived.Test.YtaijnchdfgojiaaGreatDoorEng
set_option linter.all false
namespace Go.Eng
open Go Go.RowKit
structure BR where
 Name:ByteArray
 Dir:Int
 Cap:Int
 Clock:Bool
def C_Pin:Cd BR:=Cl (fun x=>(x.Name,x.Dir,x.Cap,x.Clock)) (BG At (BG (AH .i64) (BG (AH .i64) Aq)))
theorem Bm{w:World}{S:Nat->Prop}{x:BR}{vs:List Value}(h:C_Pin.rep w S x vs):vs=[.string x.Name,.int .i64 x.Dir,.int .i64 x.Cap,.bool x.Clock]:=by
 simp only [C_Pin,Cl,BG,AH,Aq,At,DI]at h
 obtain⟨_,_,rfl,rfl,⟨_,_,rfl,rfl,⟨_,_,rfl,rfl,rfl⟩⟩⟩:=h;exact rfl
theorem Rp{w:World}{S:Nat->Prop}{x:BR}:C_Pin.rep w S x [.string x.Name,.int .i64 x.Dir,.int .i64 x.Cap,.bool x.Clock]:=by
 simp only [C_Pin,Cl,BG,AH,Aq,At,DI]
 exact⟨_,_,rfl,rfl,⟨_,_,rfl,rfl,⟨_,_,rfl,rfl,rfl⟩⟩⟩
instance:DO C_Pin:=by unfold C_Pin;infer_instance
structure Aa where
 Slews:List Int
 Loads:List Int
 Values:List Int
def C_Table:Cd Aa:=Cl (fun x=>(x.Slews,x.Loads,x.Values)) (BG (DI (AH .i64)) (BG (DI (AH .i64)) (DI (AH .i64))))
theorem Ca{w:World}{S:Nat->Prop}{x:Aa}{vs:List Value}(h:C_Table.rep w S x vs):∃v1 v2 v3,vs=[v1,v2,v3]∧AK (AH .i64) w S x.Slews v1∧AK (AH .i64) w S x.Loads v2∧AK (AH .i64) w S x.Values v3:=by
 simp only [C_Table,Cl,BG,AH,Aq,At,DI]at h
 obtain⟨_,_,rfl,⟨v1,rfl,h1⟩,⟨_,_,rfl,⟨v2,rfl,h2⟩,⟨v3,rfl,h3⟩⟩⟩:=h;exact⟨v1,v2,v3,rfl,h1,h2,h3⟩
theorem OK{w:World}{S:Nat->Prop}{x:Aa}{v1 v2 v3:Value}(h1:AK (AH .i64) w S x.Slews v1)(h2:AK (AH .i64) w S x.Loads v2)(h3:AK (AH .i64) w S x.Values v3):C_Table.rep w S x [v1,v2,v3]:=by
 simp only [C_Table,Cl,BG,AH,Aq,At,DI]
 exact⟨_,_,rfl,⟨_,rfl,h1⟩,⟨_,_,rfl,⟨_,rfl,h2⟩,⟨_,rfl,h3⟩⟩⟩
structure Ap where
 Kind:Int
 From:Int
 To:Int
 Sense:Int
 Delay:List Aa
 Slew:List Aa
def C_Arc:Cd Ap:=Cl (fun x=>(x.Kind,x.From,x.To,x.Sense,x.Delay,x.Slew)) (BG (AH .i64) (BG (AH .i64) (BG (AH .i64) (BG (AH .i64) (BG (DI C_Table) (DI C_Table))))))
theorem Bl{w:World}{S:Nat->Prop}{x:Ap}{vs:List Value}(h:C_Arc.rep w S x vs):∃v1 v2,vs=[.int .i64 x.Kind,.int .i64 x.From,.int .i64 x.To,.int .i64 x.Sense,v1,v2]∧AK C_Table w S x.Delay v1∧AK C_Table w S x.Slew v2:=by
 simp only [C_Arc,Cl,BG,AH,Aq,At,DI]at h
 obtain⟨_,_,rfl,rfl,⟨_,_,rfl,rfl,⟨_,_,rfl,rfl,⟨_,_,rfl,rfl,⟨_,_,rfl,⟨v1,rfl,h1⟩,⟨v2,rfl,h2⟩⟩⟩⟩⟩⟩:=h;exact⟨v1,v2,rfl,h1,h2⟩
theorem RE{w:World}{S:Nat->Prop}{x:Ap}{v1 v2:Value}(h1:AK C_Table w S x.Delay v1)(h2:AK C_Table w S x.Slew v2):C_Arc.rep w S x [.int .i64 x.Kind,.int .i64 x.From,.int .i64 x.To,.int .i64 x.Sense,v1,v2]:=by
 simp only [C_Arc,Cl,BG,AH,Aq,At,DI]
 exact⟨_,_,rfl,rfl,⟨_,_,rfl,rfl,⟨_,_,rfl,rfl,⟨_,_,rfl,rfl,⟨_,_,rfl,⟨_,rfl,h1⟩,⟨_,rfl,h2⟩⟩⟩⟩⟩⟩
structure Af where
 Name:ByteArray
 Kind:Int
 Pins:List BR
 Arcs:List Ap
 Truth:List Int
 Leak:Int
 Energy:Int
def C_Cell:Cd Af:=Cl (fun x=>(x.Name,x.Kind,x.Pins,x.Arcs,x.Truth,x.Leak,x.Energy)) (BG At (BG (AH .i64) (BG (DI C_Pin) (BG (DI C_Arc) (BG (DI (AH .i64)) (BG (AH .i64) (AH .i64)))))))
theorem Bo{w:World}{S:Nat->Prop}{x:Af}{vs:List Value}(h:C_Cell.rep w S x vs):∃v1 v2 v3,vs=[.string x.Name,.int .i64 x.Kind,v1,v2,v3,.int .i64 x.Leak,.int .i64 x.Energy]∧AK C_Pin w S x.Pins v1∧AK C_Arc w S x.Arcs v2∧AK (AH .i64) w S x.Truth v3:=by
 simp only [C_Cell,Cl,BG,AH,Aq,At,DI]at h
 obtain⟨_,_,rfl,rfl,⟨_,_,rfl,rfl,⟨_,_,rfl,⟨v1,rfl,h1⟩,⟨_,_,rfl,⟨v2,rfl,h2⟩,⟨_,_,rfl,⟨v3,rfl,h3⟩,⟨_,_,rfl,rfl,rfl⟩⟩⟩⟩⟩⟩:=h;exact⟨v1,v2,v3,rfl,h1,h2,h3⟩
theorem PW{w:World}{S:Nat->Prop}{x:Af}{v1 v2 v3:Value}(h1:AK C_Pin w S x.Pins v1)(h2:AK C_Arc w S x.Arcs v2)(h3:AK (AH .i64) w S x.Truth v3):C_Cell.rep w S x [.string x.Name,.int .i64 x.Kind,v1,v2,v3,.int .i64 x.Leak,.int .i64 x.Energy]:=by
 simp only [C_Cell,Cl,BG,AH,Aq,At,DI]
 exact⟨_,_,rfl,rfl,⟨_,_,rfl,rfl,⟨_,_,rfl,⟨_,rfl,h1⟩,⟨_,_,rfl,⟨_,rfl,h2⟩,⟨_,_,rfl,⟨_,rfl,h3⟩,⟨_,_,rfl,rfl,rfl⟩⟩⟩⟩⟩⟩
structure Ad where
 Cells:List Af
def Mr:Cd Ad:=Cl (fun x=>x.Cells) (DI C_Cell)
structure AV where
 Name:ByteArray
 Cell:Int
 Nets:List Int
def C_Instance:Cd AV:=Cl (fun x=>(x.Name,x.Cell,x.Nets)) (BG At (BG (AH .i64) (DI (AH .i64))))
theorem BJ{w:World}{S:Nat->Prop}{x:AV}{vs:List Value}(h:C_Instance.rep w S x vs):∃v1,vs=[.string x.Name,.int .i64 x.Cell,v1]∧AK (AH .i64) w S x.Nets v1:=by
 simp only [C_Instance,Cl,BG,AH,Aq,At,DI]at h
 obtain⟨_,_,rfl,rfl,⟨_,_,rfl,rfl,⟨v1,rfl,h1⟩⟩⟩:=h;exact⟨v1,rfl,h1⟩
theorem LM{w:World}{S:Nat->Prop}{x:AV}{v1:Value}(h1:AK (AH .i64) w S x.Nets v1):C_Instance.rep w S x [.string x.Name,.int .i64 x.Cell,v1]:=by
 simp only [C_Instance,Cl,BG,AH,Aq,At,DI]
 exact⟨_,_,rfl,rfl,⟨_,_,rfl,rfl,⟨_,rfl,h1⟩⟩⟩
structure BS where
 Name:ByteArray
 Dir:Int
 Net:Int
def C_Port:Cd BS:=Cl (fun x=>(x.Name,x.Dir,x.Net)) (BG At (BG (AH .i64) (AH .i64)))
theorem CE{w:World}{S:Nat->Prop}{x:BS}{vs:List Value}(h:C_Port.rep w S x vs):vs=[.string x.Name,.int .i64 x.Dir,.int .i64 x.Net]:=by
 simp only [C_Port,Cl,BG,AH,Aq,At,DI]at h
 obtain⟨_,_,rfl,rfl,⟨_,_,rfl,rfl,rfl⟩⟩:=h;exact rfl
theorem PO{w:World}{S:Nat->Prop}{x:BS}:C_Port.rep w S x [.string x.Name,.int .i64 x.Dir,.int .i64 x.Net]:=by
 simp only [C_Port,Cl,BG,AH,Aq,At,DI]
 exact⟨_,_,rfl,rfl,⟨_,_,rfl,rfl,rfl⟩⟩
instance:DO C_Port:=by unfold C_Port;infer_instance
structure AQ where
 Instances:List AV
 Nets:List ByteArray
 Ports:List BS
def OR:Cd AQ:=Cl (fun x=>(x.Instances,x.Nets,x.Ports)) (BG (DI C_Instance) (BG (DI At) (DI C_Port)))
structure Av where
 Parent:List Int
 Res:List Int
 Cap:List Int
 Sink:List Int
def C_Wire:Cd Av:=Cl (fun x=>(x.Parent,x.Res,x.Cap,x.Sink)) (BG (DI (AH .i64)) (BG (DI (AH .i64)) (BG (DI (AH .i64)) (DI (AH .i64)))))
theorem CD{w:World}{S:Nat->Prop}{x:Av}{vs:List Value}(h:C_Wire.rep w S x vs):∃v1 v2 v3 v4,vs=[v1,v2,v3,v4]∧AK (AH .i64) w S x.Parent v1∧AK (AH .i64) w S x.Res v2∧AK (AH .i64) w S x.Cap v3∧AK (AH .i64) w S x.Sink v4:=by
 simp only [C_Wire,Cl,BG,AH,Aq,At,DI]at h
 obtain⟨_,_,rfl,⟨v1,rfl,h1⟩,⟨_,_,rfl,⟨v2,rfl,h2⟩,⟨_,_,rfl,⟨v3,rfl,h3⟩,⟨v4,rfl,h4⟩⟩⟩⟩:=h;exact⟨v1,v2,v3,v4,rfl,h1,h2,h3,h4⟩
theorem PN{w:World}{S:Nat->Prop}{x:Av}{v1 v2 v3 v4:Value}(h1:AK (AH .i64) w S x.Parent v1)(h2:AK (AH .i64) w S x.Res v2)(h3:AK (AH .i64) w S x.Cap v3)(h4:AK (AH .i64) w S x.Sink v4):C_Wire.rep w S x [v1,v2,v3,v4]:=by
 simp only [C_Wire,Cl,BG,AH,Aq,At,DI]
 exact⟨_,_,rfl,⟨_,rfl,h1⟩,⟨_,_,rfl,⟨_,rfl,h2⟩,⟨_,_,rfl,⟨_,rfl,h3⟩,⟨_,rfl,h4⟩⟩⟩⟩
structure AO where
 Library:Ad
 Design:AQ
 Wires:List Av
def C_Block:Cd AO:=Cl (fun x=>(x.Library,x.Design,x.Wires)) (BG Mr (BG OR (DI C_Wire)))
theorem gF{w:World}{S:Nat->Prop}{x:AO}{vs:List Value}(h:C_Block.rep w S x vs):∃v1 v2 v3 v4 v5,vs=[v1,v2,v3,v4,v5]∧AK C_Cell w S x.Library.Cells v1∧AK C_Instance w S x.Design.Instances v2∧AK At w S x.Design.Nets v3∧AK C_Port w S x.Design.Ports v4∧AK C_Wire w S x.Wires v5:=by
 simp only [C_Block,Cl,BG,AH,Aq,At,DI,Mr,OR]at h
 obtain⟨_,_,rfl,⟨v1,rfl,h1⟩,⟨_,_,rfl,⟨_,_,rfl,⟨v2,rfl,h2⟩,⟨_,_,rfl,⟨v3,rfl,h3⟩,⟨v4,rfl,h4⟩⟩⟩,⟨v5,rfl,h5⟩⟩⟩:=h;exact⟨v1,v2,v3,v4,v5,rfl,h1,h2,h3,h4,h5⟩
structure Aj where
 Name:ByteArray
 CellEarly:Int
 CellLate:Int
 WireEarly:Int
 WireLate:Int
def C_Corner:Cd Aj:=Cl (fun x=>(x.Name,x.CellEarly,x.CellLate,x.WireEarly,x.WireLate)) (BG At (BG (AH .i64) (BG (AH .i64) (BG (AH .i64) (AH .i64)))))
theorem eG{w:World}{S:Nat->Prop}{x:Aj}{vs:List Value}(h:C_Corner.rep w S x vs):vs=[.string x.Name,.int .i64 x.CellEarly,.int .i64 x.CellLate,.int .i64 x.WireEarly,.int .i64 x.WireLate]:=by
 simp only [C_Corner,Cl,BG,AH,Aq,At,DI]at h
 obtain⟨_,_,rfl,rfl,⟨_,_,rfl,rfl,⟨_,_,rfl,rfl,⟨_,_,rfl,rfl,rfl⟩⟩⟩⟩:=h;exact rfl
instance:DO C_Corner:=by unfold C_Corner;infer_instance
structure AX where
 Early:Int
 Late:Int
def C_Span:Cd AX:=Cl (fun x=>(x.Early,x.Late)) (BG (AH .i64) (AH .i64))
theorem BM{w:World}{S:Nat->Prop}{x:AX}{vs:List Value}(h:C_Span.rep w S x vs):vs=[.int .i64 x.Early,.int .i64 x.Late]:=by
 simp only [C_Span,Cl,BG,AH,Aq,At,DI]at h
 obtain⟨_,_,rfl,rfl,rfl⟩:=h;exact rfl
theorem PZ{w:World}{S:Nat->Prop}{x:AX}:C_Span.rep w S x [.int .i64 x.Early,.int .i64 x.Late]:=by
 simp only [C_Span,Cl,BG,AH,Aq,At,DI]
 exact⟨_,_,rfl,rfl,rfl⟩
instance:DO C_Span:=by unfold C_Span;infer_instance
structure Am where
 Reached:List Bool
 Arrival:List AX
 Slew:List AX
def C_Timing:Cd Am:=Cl (fun x=>(x.Reached,x.Arrival,x.Slew)) (BG (DI Aq) (BG (DI C_Span) (DI C_Span)))
theorem eC{w:World}{S:Nat->Prop}{x:Am}{vs:List Value}(h:C_Timing.rep w S x vs):∃v1 v2 v3,vs=[v1,v2,v3]∧AK Aq w S x.Reached v1∧AK C_Span w S x.Arrival v2∧AK C_Span w S x.Slew v3:=by
 simp only [C_Timing,Cl,BG,AH,Aq,At,DI]at h
 obtain⟨_,_,rfl,⟨v1,rfl,h1⟩,⟨_,_,rfl,⟨v2,rfl,h2⟩,⟨v3,rfl,h3⟩⟩⟩:=h;exact⟨v1,v2,v3,rfl,h1,h2,h3⟩
structure BA where
 Bound:List Bool
 Required:List AX
def C_Needs:Cd BA:=Cl (fun x=>(x.Bound,x.Required)) (BG (DI Aq) (DI C_Span))
theorem gE{w:World}{S:Nat->Prop}{x:BA}{vs:List Value}(h:C_Needs.rep w S x vs):∃v1 v2,vs=[v1,v2]∧AK Aq w S x.Bound v1∧AK C_Span w S x.Required v2:=by
 simp only [C_Needs,Cl,BG,AH,Aq,At,DI]at h
 obtain⟨_,_,rfl,⟨v1,rfl,h1⟩,⟨v2,rfl,h2⟩⟩:=h;exact⟨v1,v2,rfl,h1,h2⟩
structure AJ where
 Node:Int
 Required:AX
def C_Target:Cd AJ:=Cl (fun x=>(x.Node,x.Required)) (BG (AH .i64) C_Span)
theorem Bn{w:World}{S:Nat->Prop}{x:AJ}{vs:List Value}(h:C_Target.rep w S x vs):vs=[.int .i64 x.Node,.int .i64 x.Required.Early,.int .i64 x.Required.Late]:=by
 simp only [C_Target,Cl,BG,AH,Aq,At,DI,C_Span]at h
 obtain⟨_,_,rfl,rfl,⟨_,_,rfl,rfl,rfl⟩⟩:=h;exact rfl
theorem NL{w:World}{S:Nat->Prop}{x:AJ}:C_Target.rep w S x [.int .i64 x.Node,.int .i64 x.Required.Early,.int .i64 x.Required.Late]:=by
 simp only [C_Target,Cl,BG,AH,Aq,At,DI,C_Span]
 exact⟨_,_,rfl,rfl,⟨_,_,rfl,rfl,rfl⟩⟩
instance:DO C_Target:=by unfold C_Target;infer_instance
structure An where
 instance_:Int
 pin_:Int
 net_:Int
 drives_:Bool
def C_place:Cd An:=Cl (fun x=>(x.instance_,x.pin_,x.net_,x.drives_)) (BG (AH .i64) (BG (AH .i64) (BG (AH .i64) Aq)))
theorem Ea{w:World}{S:Nat->Prop}{x:An}{vs:List Value}(h:C_place.rep w S x vs):vs=[.int .i64 x.instance_,.int .i64 x.pin_,.int .i64 x.net_,.bool x.drives_]:=by
 simp only [C_place,Cl,BG,AH,Aq,At,DI]at h
 obtain⟨_,_,rfl,rfl,⟨_,_,rfl,rfl,⟨_,_,rfl,rfl,rfl⟩⟩⟩:=h;exact rfl
theorem Ol{w:World}{S:Nat->Prop}{x:An}:C_place.rep w S x [.int .i64 x.instance_,.int .i64 x.pin_,.int .i64 x.net_,.bool x.drives_]:=by
 simp only [C_place,Cl,BG,AH,Aq,At,DI]
 exact⟨_,_,rfl,rfl,⟨_,_,rfl,rfl,⟨_,_,rfl,rfl,rfl⟩⟩⟩
instance:DO C_place:=by unfold C_place;infer_instance
structure AS where
 From:Int
 To:Int
 Kind:Int
 Index:Int
def C_Link:Cd AS:=Cl (fun x=>(x.From,x.To,x.Kind,x.Index)) (BG (AH .i64) (BG (AH .i64) (BG (AH .i64) (AH .i64))))
theorem Cf{w:World}{S:Nat->Prop}{x:AS}{vs:List Value}(h:C_Link.rep w S x vs):vs=[.int .i64 x.From,.int .i64 x.To,.int .i64 x.Kind,.int .i64 x.Index]:=by
 simp only [C_Link,Cl,BG,AH,Aq,At,DI]at h
 obtain⟨_,_,rfl,rfl,⟨_,_,rfl,rfl,⟨_,_,rfl,rfl,rfl⟩⟩⟩:=h;exact rfl
theorem ND{w:World}{S:Nat->Prop}{x:AS}:C_Link.rep w S x [.int .i64 x.From,.int .i64 x.To,.int .i64 x.Kind,.int .i64 x.Index]:=by
 simp only [C_Link,Cl,BG,AH,Aq,At,DI]
 exact⟨_,_,rfl,rfl,⟨_,_,rfl,rfl,⟨_,_,rfl,rfl,rfl⟩⟩⟩
instance:DO C_Link:=by unfold C_Link;infer_instance
structure BD where
 Block:AO
 places_:List An
 links_:List AS
 loads_:List Int
 delays_:List (List Int)
 extras_:List Int
structure BY where
 view_:BD
 live_:List Bool
structure Au where
 instance_:Int
 pin_:Int
 net_:Int
 drives_:Bool
def C_l05Place:Cd Au:=Cl (fun x=>(x.instance_,x.pin_,x.net_,x.drives_)) (BG (AH .i64) (BG (AH .i64) (BG (AH .i64) Aq)))
theorem CF{w:World}{S:Nat->Prop}{x:Au}{vs:List Value}(h:C_l05Place.rep w S x vs):vs=[.int .i64 x.instance_,.int .i64 x.pin_,.int .i64 x.net_,.bool x.drives_]:=by
 simp only [C_l05Place,Cl,BG,AH,Aq,At,DI]at h
 obtain⟨_,_,rfl,rfl,⟨_,_,rfl,rfl,⟨_,_,rfl,rfl,rfl⟩⟩⟩:=h;exact rfl
theorem LS{w:World}{S:Nat->Prop}{x:Au}:C_l05Place.rep w S x [.int .i64 x.instance_,.int .i64 x.pin_,.int .i64 x.net_,.bool x.drives_]:=by
 simp only [C_l05Place,Cl,BG,AH,Aq,At,DI]
 exact⟨_,_,rfl,rfl,⟨_,_,rfl,rfl,⟨_,_,rfl,rfl,rfl⟩⟩⟩
instance:DO C_l05Place:=by unfold C_l05Place;infer_instance
structure Bu where
 e0:Int
 e1:Int
def C_A2_Int:Cd Bu:=Cl (fun x=>(x.e0,x.e1)) (BG (AH .i64) (AH .i64))
theorem PF{w:World}{S:Nat->Prop}{x:Bu}{vs:List Value}(h:C_A2_Int.rep w S x vs):vs=[.int .i64 x.e0,.int .i64 x.e1]:=by
 simp only [C_A2_Int,Cl,BG,AH,Aq,At,DI]at h
 obtain⟨_,_,rfl,rfl,rfl⟩:=h;exact rfl
theorem Ch{w:World}{S:Nat->Prop}{x:Bu}:C_A2_Int.rep w S x [.int .i64 x.e0,.int .i64 x.e1]:=by
 simp only [C_A2_Int,Cl,BG,AH,Aq,At,DI]
 exact⟨_,_,rfl,rfl,rfl⟩
instance:DO C_A2_Int:=by unfold C_A2_Int;infer_instance
structure Bt where
 index_:Int
 part_:Int
def C_weight:Cd Bt:=Cl (fun x=>(x.index_,x.part_)) (BG (AH .i64) (AH .i64))
theorem LN{w:World}{S:Nat->Prop}{x:Bt}{vs:List Value}(h:C_weight.rep w S x vs):vs=[.int .i64 x.index_,.int .i64 x.part_]:=by
 simp only [C_weight,Cl,BG,AH,Aq,At,DI]at h
 obtain⟨_,_,rfl,rfl,rfl⟩:=h;exact rfl
theorem KC{w:World}{S:Nat->Prop}{x:Bt}:C_weight.rep w S x [.int .i64 x.index_,.int .i64 x.part_]:=by
 simp only [C_weight,Cl,BG,AH,Aq,At,DI]
 exact⟨_,_,rfl,rfl,rfl⟩
instance:DO C_weight:=by unfold C_weight;infer_instance
def Jk(k:IntKind)(x:Int):Prop:=k.min<=x∧x<=k.max
theorem Jk.i64{x:Int}(h:Jk .i64 x):-9223372036854775808<=x∧x<=9223372036854775807:=h
def SF(x:BR):Prop:=(fun s=>s.size<=maxLen) x.Name∧(Jk .i64) x.Dir∧(Jk .i64) x.Cap∧(fun _=>True) x.Clock
def LA(x:Aa):Prop:=(fun xs=>xs.length<=9223372036854775807∧∀x∈xs,(Jk .i64) x) x.Slews∧(fun xs=>xs.length<=9223372036854775807∧∀x∈xs,(Jk .i64) x) x.Loads∧(fun xs=>xs.length<=9223372036854775807∧∀x∈xs,(Jk .i64) x) x.Values
def SP(x:Ap):Prop:=(Jk .i64) x.Kind∧(Jk .i64) x.From∧(Jk .i64) x.To∧(Jk .i64) x.Sense∧(fun xs=>xs.length<=9223372036854775807∧∀x∈xs,LA x) x.Delay∧(fun xs=>xs.length<=9223372036854775807∧∀x∈xs,LA x) x.Slew
def Oq(x:Af):Prop:=(fun s=>s.size<=maxLen) x.Name∧(Jk .i64) x.Kind∧(fun xs=>xs.length<=9223372036854775807∧∀x∈xs,SF x) x.Pins∧(fun xs=>xs.length<=9223372036854775807∧∀x∈xs,SP x) x.Arcs∧(fun xs=>xs.length<=9223372036854775807∧∀x∈xs,(Jk .i64) x) x.Truth∧(Jk .i64) x.Leak∧(Jk .i64) x.Energy
def NF(x:Ad):Prop:=(fun xs=>xs.length<=9223372036854775807∧∀x∈xs,Oq x) x.Cells
def Gq(x:AV):Prop:=(fun s=>s.size<=maxLen) x.Name∧(Jk .i64) x.Cell∧(fun xs=>xs.length<=9223372036854775807∧∀x∈xs,(Jk .i64) x) x.Nets
def OO(x:BS):Prop:=(fun s=>s.size<=maxLen) x.Name∧(Jk .i64) x.Dir∧(Jk .i64) x.Net
def Nv(x:AQ):Prop:=(fun xs=>xs.length<=9223372036854775807∧∀x∈xs,Gq x) x.Instances∧(fun xs=>xs.length<=9223372036854775807∧∀x∈xs,(fun s=>s.size<=maxLen) x) x.Nets∧(fun xs=>xs.length<=9223372036854775807∧∀x∈xs,OO x) x.Ports
def OG(x:Av):Prop:=(fun xs=>xs.length<=9223372036854775807∧∀x∈xs,(Jk .i64) x) x.Parent∧(fun xs=>xs.length<=9223372036854775807∧∀x∈xs,(Jk .i64) x) x.Res∧(fun xs=>xs.length<=9223372036854775807∧∀x∈xs,(Jk .i64) x) x.Cap∧(fun xs=>xs.length<=9223372036854775807∧∀x∈xs,(Jk .i64) x) x.Sink
def QH(x:AO):Prop:=NF x.Library∧Nv x.Design∧(fun xs=>xs.length<=9223372036854775807∧∀x∈xs,OG x) x.Wires
def Oh(x:Aj):Prop:=(fun s=>s.size<=maxLen) x.Name∧(Jk .i64) x.CellEarly∧(Jk .i64) x.CellLate∧(Jk .i64) x.WireEarly∧(Jk .i64) x.WireLate
def MD(x:AX):Prop:=(Jk .i64) x.Early∧(Jk .i64) x.Late
def Nq(x:Am):Prop:=(fun xs=>xs.length<=9223372036854775807∧∀x∈xs,(fun _=>True) x) x.Reached∧(fun xs=>xs.length<=9223372036854775807∧∀x∈xs,MD x) x.Arrival∧(fun xs=>xs.length<=9223372036854775807∧∀x∈xs,MD x) x.Slew
def Pz(x:BA):Prop:=(fun xs=>xs.length<=9223372036854775807∧∀x∈xs,(fun _=>True) x) x.Bound∧(fun xs=>xs.length<=9223372036854775807∧∀x∈xs,MD x) x.Required
def MY(x:AJ):Prop:=(Jk .i64) x.Node∧MD x.Required
def JO(x:BR):Prop:=(fun s=>s.size<=1048576) x.Name∧(fun _=>True) x.Dir∧(fun _=>True) x.Cap∧(fun _=>True) x.Clock
def Dx(x:Aa):Prop:=(fun xs=>xs.length<=1048576∧∀x∈xs,(fun _=>True) x) x.Slews∧(fun xs=>xs.length<=1048576∧∀x∈xs,(fun _=>True) x) x.Loads∧(fun xs=>xs.length<=1048576∧∀x∈xs,(fun _=>True) x) x.Values
def JZ(x:Ap):Prop:=(fun _=>True) x.Kind∧(fun _=>True) x.From∧(fun _=>True) x.To∧(fun _=>True) x.Sense∧(fun xs=>xs.length<=1048576∧∀x∈xs,Dx x) x.Delay∧(fun xs=>xs.length<=1048576∧∀x∈xs,Dx x) x.Slew
def FK(x:Af):Prop:=(fun s=>s.size<=1048576) x.Name∧(fun _=>True) x.Kind∧(fun xs=>xs.length<=1048576∧∀x∈xs,JO x) x.Pins∧(fun xs=>xs.length<=1048576∧∀x∈xs,JZ x) x.Arcs∧(fun xs=>xs.length<=1048576∧∀x∈xs,(fun _=>True) x) x.Truth∧(fun _=>True) x.Leak∧(fun _=>True) x.Energy
def IE(x:Ad):Prop:=(fun xs=>xs.length<=1048576∧∀x∈xs,FK x) x.Cells
def EB(x:AV):Prop:=(fun s=>s.size<=1048576) x.Name∧(fun _=>True) x.Cell∧(fun xs=>xs.length<=1048576∧∀x∈xs,(fun _=>True) x) x.Nets
def Gz(x:BS):Prop:=(fun s=>s.size<=1048576) x.Name∧(fun _=>True) x.Dir∧(fun _=>True) x.Net
def Ky(x:AQ):Prop:=(fun xs=>xs.length<=1048576∧∀x∈xs,EB x) x.Instances∧(fun xs=>xs.length<=1048576∧∀x∈xs,(fun s=>s.size<=1048576) x) x.Nets∧(fun xs=>xs.length<=1048576∧∀x∈xs,Gz x) x.Ports
def HQ(x:Av):Prop:=(fun xs=>xs.length<=1048576∧∀x∈xs,(fun _=>True) x) x.Parent∧(fun xs=>xs.length<=1048576∧∀x∈xs,(fun _=>True) x) x.Res∧(fun xs=>xs.length<=1048576∧∀x∈xs,(fun _=>True) x) x.Cap∧(fun xs=>xs.length<=1048576∧∀x∈xs,(fun _=>True) x) x.Sink
def Hj(x:AO):Prop:=IE x.Library∧Ky x.Design∧(fun xs=>xs.length<=1048576∧∀x∈xs,HQ x) x.Wires
def PQ(x:Aj):Prop:=(fun s=>s.size<=1048576) x.Name∧(fun _=>True) x.CellEarly∧(fun _=>True) x.CellLate∧(fun _=>True) x.WireEarly∧(fun _=>True) x.WireLate
def GT(x:AX):Prop:=(fun _=>True) x.Early∧(fun _=>True) x.Late
def Mk(x:Am):Prop:=(fun xs=>xs.length<=1048576∧∀x∈xs,(fun _=>True) x) x.Reached∧(fun xs=>xs.length<=1048576∧∀x∈xs,GT x) x.Arrival∧(fun xs=>xs.length<=1048576∧∀x∈xs,GT x) x.Slew
def OP(x:BA):Prop:=(fun xs=>xs.length<=1048576∧∀x∈xs,(fun _=>True) x) x.Bound∧(fun xs=>xs.length<=1048576∧∀x∈xs,GT x) x.Required
def Hq(x:AJ):Prop:=(fun _=>True) x.Node∧GT x.Required
end Go.Eng
