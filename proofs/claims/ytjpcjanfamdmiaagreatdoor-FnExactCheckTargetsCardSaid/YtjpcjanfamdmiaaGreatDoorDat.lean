/- The data of the program, as plain Lean structures, and their cells; no condition. -/
import Derived.Test.YtjpcjanfamdmiaaGreatDoorEng
set_option linter.all false
namespace Go.Eng
open Go Go.RowKit
structure BD where
 Name:ByteArray
 Dir:Int
 Cap:Int
 Clock:Bool
def C_Pin:Bp BD:=Bn (fun x=>(x.Name,x.Dir,x.Cap,x.Clock)) (Ai At (Ai (AL .i64) (Ai (AL .i64) BH)))
theorem Bg{w:World}{S:Nat->Prop}{x:BD}{vs:List Value}(h:C_Pin.rep w S x vs):vs=[.string x.Name,.int .i64 x.Dir,.int .i64 x.Cap,.bool x.Clock]:=by
 simp only [C_Pin,Bn,Ai,AL,BH,At,Ci]at h
 obtain⟨_,_,rfl,rfl,⟨_,_,rfl,rfl,⟨_,_,rfl,rfl,rfl⟩⟩⟩:=h;exact rfl
theorem QZ{w:World}{S:Nat->Prop}{x:BD}:C_Pin.rep w S x [.string x.Name,.int .i64 x.Dir,.int .i64 x.Cap,.bool x.Clock]:=by
 simp only [C_Pin,Bn,Ai,AL,BH,At,Ci]
 exact⟨_,_,rfl,rfl,⟨_,_,rfl,rfl,⟨_,_,rfl,rfl,rfl⟩⟩⟩
instance:CM C_Pin:=by unfold C_Pin;infer_instance
def C_PinS:Bp BD:=Bn (fun x=>(x.Name,x.Dir,x.Cap,x.Clock)) (Ai Fi (Ai (CE .i64) (Ai (CE .i64) HO)))
instance:JC C_PinS:=by unfold C_PinS;infer_instance
instance:Dp C_Pin C_PinS:=by unfold C_Pin C_PinS;infer_instance
theorem Gc{w:World}{S:Nat->Prop}{x:BD}{vs:List Value}(h:C_PinS.rep w S x vs):∃(a1:ByteArray) (a2:Int) (a3:Int) (a4:Bool),vs=[.string a1,.int .i64 a2,.int .i64 a3,.bool a4]:=by
 simp only [C_PinS,Bn,Ai,CE,HO,Fi,Ci]at h
 obtain⟨_,_,rfl,⟨a1,rfl⟩,⟨_,_,rfl,⟨a2,rfl⟩,⟨_,_,rfl,⟨a3,rfl⟩,⟨a4,rfl⟩⟩⟩⟩:=h;exact⟨a1,a2,a3,a4,rfl⟩
structure AS where
 Slews:List Int
 Loads:List Int
 Values:List Int
def C_Table:Bp AS:=Bn (fun x=>(x.Slews,x.Loads,x.Values)) (Ai (Ci (AL .i64)) (Ai (Ci (AL .i64)) (Ci (AL .i64))))
theorem Co{w:World}{S:Nat->Prop}{x:AS}{vs:List Value}(h:C_Table.rep w S x vs):∃v1 v2 v3,vs=[v1,v2,v3]∧AD (AL .i64) w S x.Slews v1∧AD (AL .i64) w S x.Loads v2∧AD (AL .i64) w S x.Values v3:=by
 simp only [C_Table,Bn,Ai,AL,BH,At,Ci]at h
 obtain⟨_,_,rfl,⟨v1,rfl,h1⟩,⟨_,_,rfl,⟨v2,rfl,h2⟩,⟨v3,rfl,h3⟩⟩⟩:=h;exact⟨v1,v2,v3,rfl,h1,h2,h3⟩
theorem NU{w:World}{S:Nat->Prop}{x:AS}{v1 v2 v3:Value}(h1:AD (AL .i64) w S x.Slews v1)(h2:AD (AL .i64) w S x.Loads v2)(h3:AD (AL .i64) w S x.Values v3):C_Table.rep w S x [v1,v2,v3]:=by
 simp only [C_Table,Bn,Ai,AL,BH,At,Ci]
 exact⟨_,_,rfl,⟨_,rfl,h1⟩,⟨_,_,rfl,⟨_,rfl,h2⟩,⟨_,rfl,h3⟩⟩⟩
def C_TableS:Bp AS:=Bn (fun x=>(x.Slews,x.Loads,x.Values)) (Ai (Ci (CE .i64)) (Ai (Ci (CE .i64)) (Ci (CE .i64))))
instance:JC C_TableS:=by unfold C_TableS;infer_instance
instance:Dp C_Table C_TableS:=by unfold C_Table C_TableS;infer_instance
theorem HJ{w:World}{S:Nat->Prop}{x:AS}{vs:List Value}(h:C_TableS.rep w S x vs):∃(v1:Value) (v2:Value) (v3:Value),vs=[v1,v2,v3]∧AD (CE .i64) w S x.Slews v1∧AD (CE .i64) w S x.Loads v2∧AD (CE .i64) w S x.Values v3:=by
 simp only [C_TableS,Bn,Ai,CE,HO,Fi,Ci]at h
 obtain⟨_,_,rfl,⟨v1,rfl,h1⟩,⟨_,_,rfl,⟨v2,rfl,h2⟩,⟨v3,rfl,h3⟩⟩⟩:=h;exact⟨v1,v2,v3,rfl,h1,h2,h3⟩
structure Ah where
 Kind:Int
 From:Int
 To:Int
 Sense:Int
 Delay:List AS
 Slew:List AS
def C_Arc:Bp Ah:=Bn (fun x=>(x.Kind,x.From,x.To,x.Sense,x.Delay,x.Slew)) (Ai (AL .i64) (Ai (AL .i64) (Ai (AL .i64) (Ai (AL .i64) (Ai (Ci C_Table) (Ci C_Table))))))
theorem BP{w:World}{S:Nat->Prop}{x:Ah}{vs:List Value}(h:C_Arc.rep w S x vs):∃v1 v2,vs=[.int .i64 x.Kind,.int .i64 x.From,.int .i64 x.To,.int .i64 x.Sense,v1,v2]∧AD C_Table w S x.Delay v1∧AD C_Table w S x.Slew v2:=by
 simp only [C_Arc,Bn,Ai,AL,BH,At,Ci]at h
 obtain⟨_,_,rfl,rfl,⟨_,_,rfl,rfl,⟨_,_,rfl,rfl,⟨_,_,rfl,rfl,⟨_,_,rfl,⟨v1,rfl,h1⟩,⟨v2,rfl,h2⟩⟩⟩⟩⟩⟩:=h;exact⟨v1,v2,rfl,h1,h2⟩
theorem Px{w:World}{S:Nat->Prop}{x:Ah}{v1 v2:Value}(h1:AD C_Table w S x.Delay v1)(h2:AD C_Table w S x.Slew v2):C_Arc.rep w S x [.int .i64 x.Kind,.int .i64 x.From,.int .i64 x.To,.int .i64 x.Sense,v1,v2]:=by
 simp only [C_Arc,Bn,Ai,AL,BH,At,Ci]
 exact⟨_,_,rfl,rfl,⟨_,_,rfl,rfl,⟨_,_,rfl,rfl,⟨_,_,rfl,rfl,⟨_,_,rfl,⟨_,rfl,h1⟩,⟨_,rfl,h2⟩⟩⟩⟩⟩⟩
def C_ArcS:Bp Ah:=Bn (fun x=>(x.Kind,x.From,x.To,x.Sense,x.Delay,x.Slew)) (Ai (CE .i64) (Ai (CE .i64) (Ai (CE .i64) (Ai (CE .i64) (Ai (Ci C_TableS) (Ci C_TableS))))))
instance:JC C_ArcS:=by unfold C_ArcS;infer_instance
instance:Dp C_Arc C_ArcS:=by unfold C_Arc C_ArcS;infer_instance
theorem Eb{w:World}{S:Nat->Prop}{x:Ah}{vs:List Value}(h:C_ArcS.rep w S x vs):∃(a1:Int) (a2:Int) (a3:Int) (a4:Int) (v1:Value) (v2:Value),vs=[.int .i64 a1,.int .i64 a2,.int .i64 a3,.int .i64 a4,v1,v2]∧AD C_TableS w S x.Delay v1∧AD C_TableS w S x.Slew v2:=by
 simp only [C_ArcS,Bn,Ai,CE,HO,Fi,Ci]at h
 obtain⟨_,_,rfl,⟨a1,rfl⟩,⟨_,_,rfl,⟨a2,rfl⟩,⟨_,_,rfl,⟨a3,rfl⟩,⟨_,_,rfl,⟨a4,rfl⟩,⟨_,_,rfl,⟨v1,rfl,h1⟩,⟨v2,rfl,h2⟩⟩⟩⟩⟩⟩:=h;exact⟨a1,a2,a3,a4,v1,v2,rfl,h1,h2⟩
structure AX where
 Name:ByteArray
 Kind:Int
 Pins:List BD
 Arcs:List Ah
 Truth:List Int
 Leak:Int
 Energy:Int
def C_Cell:Bp AX:=Bn (fun x=>(x.Name,x.Kind,x.Pins,x.Arcs,x.Truth,x.Leak,x.Energy)) (Ai At (Ai (AL .i64) (Ai (Ci C_Pin) (Ai (Ci C_Arc) (Ai (Ci (AL .i64)) (Ai (AL .i64) (AL .i64)))))))
theorem BV{w:World}{S:Nat->Prop}{x:AX}{vs:List Value}(h:C_Cell.rep w S x vs):∃v1 v2 v3,vs=[.string x.Name,.int .i64 x.Kind,v1,v2,v3,.int .i64 x.Leak,.int .i64 x.Energy]∧AD C_Pin w S x.Pins v1∧AD C_Arc w S x.Arcs v2∧AD (AL .i64) w S x.Truth v3:=by
 simp only [C_Cell,Bn,Ai,AL,BH,At,Ci]at h
 obtain⟨_,_,rfl,rfl,⟨_,_,rfl,rfl,⟨_,_,rfl,⟨v1,rfl,h1⟩,⟨_,_,rfl,⟨v2,rfl,h2⟩,⟨_,_,rfl,⟨v3,rfl,h3⟩,⟨_,_,rfl,rfl,rfl⟩⟩⟩⟩⟩⟩:=h;exact⟨v1,v2,v3,rfl,h1,h2,h3⟩
theorem Oo{w:World}{S:Nat->Prop}{x:AX}{v1 v2 v3:Value}(h1:AD C_Pin w S x.Pins v1)(h2:AD C_Arc w S x.Arcs v2)(h3:AD (AL .i64) w S x.Truth v3):C_Cell.rep w S x [.string x.Name,.int .i64 x.Kind,v1,v2,v3,.int .i64 x.Leak,.int .i64 x.Energy]:=by
 simp only [C_Cell,Bn,Ai,AL,BH,At,Ci]
 exact⟨_,_,rfl,rfl,⟨_,_,rfl,rfl,⟨_,_,rfl,⟨_,rfl,h1⟩,⟨_,_,rfl,⟨_,rfl,h2⟩,⟨_,_,rfl,⟨_,rfl,h3⟩,⟨_,_,rfl,rfl,rfl⟩⟩⟩⟩⟩⟩
def C_CellS:Bp AX:=Bn (fun x=>(x.Name,x.Kind,x.Pins,x.Arcs,x.Truth,x.Leak,x.Energy)) (Ai Fi (Ai (CE .i64) (Ai (Ci C_PinS) (Ai (Ci C_ArcS) (Ai (Ci (CE .i64)) (Ai (CE .i64) (CE .i64)))))))
instance:JC C_CellS:=by unfold C_CellS;infer_instance
instance:Dp C_Cell C_CellS:=by unfold C_Cell C_CellS;infer_instance
theorem Dd{w:World}{S:Nat->Prop}{x:AX}{vs:List Value}(h:C_CellS.rep w S x vs):∃(a1:ByteArray) (a2:Int) (a3:Int) (a4:Int) (v1:Value) (v2:Value) (v3:Value),vs=[.string a1,.int .i64 a2,v1,v2,v3,.int .i64 a3,.int .i64 a4]∧AD C_PinS w S x.Pins v1∧AD C_ArcS w S x.Arcs v2∧AD (CE .i64) w S x.Truth v3:=by
 simp only [C_CellS,Bn,Ai,CE,HO,Fi,Ci]at h
 obtain⟨_,_,rfl,⟨a1,rfl⟩,⟨_,_,rfl,⟨a2,rfl⟩,⟨_,_,rfl,⟨v1,rfl,h1⟩,⟨_,_,rfl,⟨v2,rfl,h2⟩,⟨_,_,rfl,⟨v3,rfl,h3⟩,⟨_,_,rfl,⟨a3,rfl⟩,⟨a4,rfl⟩⟩⟩⟩⟩⟩⟩:=h;exact⟨a1,a2,a3,a4,v1,v2,v3,rfl,h1,h2,h3⟩
structure Ab where
 Cells:List AX
def MJ:Bp Ab:=Bn (fun x=>x.Cells) (Ci C_Cell)
structure AO where
 Name:ByteArray
 Cell:Int
 Nets:List Int
def C_Instance:Bp AO:=Bn (fun x=>(x.Name,x.Cell,x.Nets)) (Ai At (Ai (AL .i64) (Ci (AL .i64))))
theorem As{w:World}{S:Nat->Prop}{x:AO}{vs:List Value}(h:C_Instance.rep w S x vs):∃v1,vs=[.string x.Name,.int .i64 x.Cell,v1]∧AD (AL .i64) w S x.Nets v1:=by
 simp only [C_Instance,Bn,Ai,AL,BH,At,Ci]at h
 obtain⟨_,_,rfl,rfl,⟨_,_,rfl,rfl,⟨v1,rfl,h1⟩⟩⟩:=h;exact⟨v1,rfl,h1⟩
theorem Kg{w:World}{S:Nat->Prop}{x:AO}{v1:Value}(h1:AD (AL .i64) w S x.Nets v1):C_Instance.rep w S x [.string x.Name,.int .i64 x.Cell,v1]:=by
 simp only [C_Instance,Bn,Ai,AL,BH,At,Ci]
 exact⟨_,_,rfl,rfl,⟨_,_,rfl,rfl,⟨_,rfl,h1⟩⟩⟩
def C_InstanceS:Bp AO:=Bn (fun x=>(x.Name,x.Cell,x.Nets)) (Ai Fi (Ai (CE .i64) (Ci (CE .i64))))
instance:JC C_InstanceS:=by unfold C_InstanceS;infer_instance
instance:Dp C_Instance C_InstanceS:=by unfold C_Instance C_InstanceS;infer_instance
theorem FI{w:World}{S:Nat->Prop}{x:AO}{vs:List Value}(h:C_InstanceS.rep w S x vs):∃(a1:ByteArray) (a2:Int) (v1:Value),vs=[.string a1,.int .i64 a2,v1]∧AD (CE .i64) w S x.Nets v1:=by
 simp only [C_InstanceS,Bn,Ai,CE,HO,Fi,Ci]at h
 obtain⟨_,_,rfl,⟨a1,rfl⟩,⟨_,_,rfl,⟨a2,rfl⟩,⟨v1,rfl,h1⟩⟩⟩:=h;exact⟨a1,a2,v1,rfl,h1⟩
structure BG where
 Name:ByteArray
 Dir:Int
 Net:Int
def C_Port:Bp BG:=Bn (fun x=>(x.Name,x.Dir,x.Net)) (Ai At (Ai (AL .i64) (AL .i64)))
theorem Br{w:World}{S:Nat->Prop}{x:BG}{vs:List Value}(h:C_Port.rep w S x vs):vs=[.string x.Name,.int .i64 x.Dir,.int .i64 x.Net]:=by
 simp only [C_Port,Bn,Ai,AL,BH,At,Ci]at h
 obtain⟨_,_,rfl,rfl,⟨_,_,rfl,rfl,rfl⟩⟩:=h;exact rfl
theorem Of{w:World}{S:Nat->Prop}{x:BG}:C_Port.rep w S x [.string x.Name,.int .i64 x.Dir,.int .i64 x.Net]:=by
 simp only [C_Port,Bn,Ai,AL,BH,At,Ci]
 exact⟨_,_,rfl,rfl,⟨_,_,rfl,rfl,rfl⟩⟩
instance:CM C_Port:=by unfold C_Port;infer_instance
def C_PortS:Bp BG:=Bn (fun x=>(x.Name,x.Dir,x.Net)) (Ai Fi (Ai (CE .i64) (CE .i64)))
instance:JC C_PortS:=by unfold C_PortS;infer_instance
instance:Dp C_Port C_PortS:=by unfold C_Port C_PortS;infer_instance
theorem IU{w:World}{S:Nat->Prop}{x:BG}{vs:List Value}(h:C_PortS.rep w S x vs):∃(a1:ByteArray) (a2:Int) (a3:Int),vs=[.string a1,.int .i64 a2,.int .i64 a3]:=by
 simp only [C_PortS,Bn,Ai,CE,HO,Fi,Ci]at h
 obtain⟨_,_,rfl,⟨a1,rfl⟩,⟨_,_,rfl,⟨a2,rfl⟩,⟨a3,rfl⟩⟩⟩:=h;exact⟨a1,a2,a3,rfl⟩
structure AP where
 Instances:List AO
 Nets:List ByteArray
 Ports:List BG
def Nf:Bp AP:=Bn (fun x=>(x.Instances,x.Nets,x.Ports)) (Ai (Ci C_Instance) (Ai (Ci At) (Ci C_Port)))
structure Ar where
 Parent:List Int
 Res:List Int
 Cap:List Int
 Sink:List Int
def C_Wire:Bp Ar:=Bn (fun x=>(x.Parent,x.Res,x.Cap,x.Sink)) (Ai (Ci (AL .i64)) (Ai (Ci (AL .i64)) (Ai (Ci (AL .i64)) (Ci (AL .i64)))))
theorem Cp{w:World}{S:Nat->Prop}{x:Ar}{vs:List Value}(h:C_Wire.rep w S x vs):∃v1 v2 v3 v4,vs=[v1,v2,v3,v4]∧AD (AL .i64) w S x.Parent v1∧AD (AL .i64) w S x.Res v2∧AD (AL .i64) w S x.Cap v3∧AD (AL .i64) w S x.Sink v4:=by
 simp only [C_Wire,Bn,Ai,AL,BH,At,Ci]at h
 obtain⟨_,_,rfl,⟨v1,rfl,h1⟩,⟨_,_,rfl,⟨v2,rfl,h2⟩,⟨_,_,rfl,⟨v3,rfl,h3⟩,⟨v4,rfl,h4⟩⟩⟩⟩:=h;exact⟨v1,v2,v3,v4,rfl,h1,h2,h3,h4⟩
theorem Oe{w:World}{S:Nat->Prop}{x:Ar}{v1 v2 v3 v4:Value}(h1:AD (AL .i64) w S x.Parent v1)(h2:AD (AL .i64) w S x.Res v2)(h3:AD (AL .i64) w S x.Cap v3)(h4:AD (AL .i64) w S x.Sink v4):C_Wire.rep w S x [v1,v2,v3,v4]:=by
 simp only [C_Wire,Bn,Ai,AL,BH,At,Ci]
 exact⟨_,_,rfl,⟨_,rfl,h1⟩,⟨_,_,rfl,⟨_,rfl,h2⟩,⟨_,_,rfl,⟨_,rfl,h3⟩,⟨_,rfl,h4⟩⟩⟩⟩
def C_WireS:Bp Ar:=Bn (fun x=>(x.Parent,x.Res,x.Cap,x.Sink)) (Ai (Ci (CE .i64)) (Ai (Ci (CE .i64)) (Ai (Ci (CE .i64)) (Ci (CE .i64)))))
instance:JC C_WireS:=by unfold C_WireS;infer_instance
instance:Dp C_Wire C_WireS:=by unfold C_Wire C_WireS;infer_instance
theorem Fy{w:World}{S:Nat->Prop}{x:Ar}{vs:List Value}(h:C_WireS.rep w S x vs):∃(v1:Value) (v2:Value) (v3:Value) (v4:Value),vs=[v1,v2,v3,v4]∧AD (CE .i64) w S x.Parent v1∧AD (CE .i64) w S x.Res v2∧AD (CE .i64) w S x.Cap v3∧AD (CE .i64) w S x.Sink v4:=by
 simp only [C_WireS,Bn,Ai,CE,HO,Fi,Ci]at h
 obtain⟨_,_,rfl,⟨v1,rfl,h1⟩,⟨_,_,rfl,⟨v2,rfl,h2⟩,⟨_,_,rfl,⟨v3,rfl,h3⟩,⟨v4,rfl,h4⟩⟩⟩⟩:=h;exact⟨v1,v2,v3,v4,rfl,h1,h2,h3,h4⟩
structure AQ where
 Library:Ab
 Design:AP
 Wires:List Ar
def C_Block:Bp AQ:=Bn (fun x=>(x.Library,x.Design,x.Wires)) (Ai MJ (Ai Nf (Ci C_Wire)))
theorem cG{w:World}{S:Nat->Prop}{x:AQ}{vs:List Value}(h:C_Block.rep w S x vs):∃v1 v2 v3 v4 v5,vs=[v1,v2,v3,v4,v5]∧AD C_Cell w S x.Library.Cells v1∧AD C_Instance w S x.Design.Instances v2∧AD At w S x.Design.Nets v3∧AD C_Port w S x.Design.Ports v4∧AD C_Wire w S x.Wires v5:=by
 simp only [C_Block,Bn,Ai,AL,BH,At,Ci,MJ,Nf]at h
 obtain⟨_,_,rfl,⟨v1,rfl,h1⟩,⟨_,_,rfl,⟨_,_,rfl,⟨v2,rfl,h2⟩,⟨_,_,rfl,⟨v3,rfl,h3⟩,⟨v4,rfl,h4⟩⟩⟩,⟨v5,rfl,h5⟩⟩⟩:=h;exact⟨v1,v2,v3,v4,v5,rfl,h1,h2,h3,h4,h5⟩
structure AV where
 Early:Int
 Late:Int
def C_Span:Bp AV:=Bn (fun x=>(x.Early,x.Late)) (Ai (AL .i64) (AL .i64))
theorem Aq{w:World}{S:Nat->Prop}{x:AV}{vs:List Value}(h:C_Span.rep w S x vs):vs=[.int .i64 x.Early,.int .i64 x.Late]:=by
 simp only [C_Span,Bn,Ai,AL,BH,At,Ci]at h
 obtain⟨_,_,rfl,rfl,rfl⟩:=h;exact rfl
theorem KH{w:World}{S:Nat->Prop}{x:AV}:C_Span.rep w S x [.int .i64 x.Early,.int .i64 x.Late]:=by
 simp only [C_Span,Bn,Ai,AL,BH,At,Ci]
 exact⟨_,_,rfl,rfl,rfl⟩
instance:CM C_Span:=by unfold C_Span;infer_instance
structure Ac where
 Reached:List Bool
 Arrival:List AV
 Slew:List AV
def C_Timing:Bp Ac:=Bn (fun x=>(x.Reached,x.Arrival,x.Slew)) (Ai (Ci BH) (Ai (Ci C_Span) (Ci C_Span)))
theorem Zy{w:World}{S:Nat->Prop}{x:Ac}{vs:List Value}(h:C_Timing.rep w S x vs):∃v1 v2 v3,vs=[v1,v2,v3]∧AD BH w S x.Reached v1∧AD C_Span w S x.Arrival v2∧AD C_Span w S x.Slew v3:=by
 simp only [C_Timing,Bn,Ai,AL,BH,At,Ci]at h
 obtain⟨_,_,rfl,⟨v1,rfl,h1⟩,⟨_,_,rfl,⟨v2,rfl,h2⟩,⟨v3,rfl,h3⟩⟩⟩:=h;exact⟨v1,v2,v3,rfl,h1,h2,h3⟩
structure Aj where
 Setup:Int
 Hold:Int
 Uncertainty:Int
def C_Relation:Bp Aj:=Bn (fun x=>(x.Setup,x.Hold,x.Uncertainty)) (Ai (AL .i64) (Ai (AL .i64) (AL .i64)))
theorem VZ{w:World}{S:Nat->Prop}{x:Aj}{vs:List Value}(h:C_Relation.rep w S x vs):vs=[.int .i64 x.Setup,.int .i64 x.Hold,.int .i64 x.Uncertainty]:=by
 simp only [C_Relation,Bn,Ai,AL,BH,At,Ci]at h
 obtain⟨_,_,rfl,rfl,⟨_,_,rfl,rfl,rfl⟩⟩:=h;exact rfl
instance:CM C_Relation:=by unfold C_Relation;infer_instance
structure AG where
 Node:Int
 Required:AV
def C_Target:Bp AG:=Bn (fun x=>(x.Node,x.Required)) (Ai (AL .i64) C_Span)
theorem BJ{w:World}{S:Nat->Prop}{x:AG}{vs:List Value}(h:C_Target.rep w S x vs):vs=[.int .i64 x.Node,.int .i64 x.Required.Early,.int .i64 x.Required.Late]:=by
 simp only [C_Target,Bn,Ai,AL,BH,At,Ci,C_Span]at h
 obtain⟨_,_,rfl,rfl,⟨_,_,rfl,rfl,rfl⟩⟩:=h;exact rfl
theorem DE{w:World}{S:Nat->Prop}{x:AG}:C_Target.rep w S x [.int .i64 x.Node,.int .i64 x.Required.Early,.int .i64 x.Required.Late]:=by
 simp only [C_Target,Bn,Ai,AL,BH,At,Ci,C_Span]
 exact⟨_,_,rfl,rfl,⟨_,_,rfl,rfl,rfl⟩⟩
instance:CM C_Target:=by unfold C_Target;infer_instance
structure Al where
 Instance:Int
 Arc:Int
 Transition:Int
 Slack:Int
def C_Check:Bp Al:=Bn (fun x=>(x.Instance,x.Arc,x.Transition,x.Slack)) (Ai (AL .i64) (Ai (AL .i64) (Ai (AL .i64) (AL .i64))))
theorem Cl{w:World}{S:Nat->Prop}{x:Al}{vs:List Value}(h:C_Check.rep w S x vs):vs=[.int .i64 x.Instance,.int .i64 x.Arc,.int .i64 x.Transition,.int .i64 x.Slack]:=by
 simp only [C_Check,Bn,Ai,AL,BH,At,Ci]at h
 obtain⟨_,_,rfl,rfl,⟨_,_,rfl,rfl,⟨_,_,rfl,rfl,rfl⟩⟩⟩:=h;exact rfl
theorem IZ{w:World}{S:Nat->Prop}{x:Al}:C_Check.rep w S x [.int .i64 x.Instance,.int .i64 x.Arc,.int .i64 x.Transition,.int .i64 x.Slack]:=by
 simp only [C_Check,Bn,Ai,AL,BH,At,Ci]
 exact⟨_,_,rfl,rfl,⟨_,_,rfl,rfl,⟨_,_,rfl,rfl,rfl⟩⟩⟩
instance:CM C_Check:=by unfold C_Check;infer_instance
structure Ak where
 instance_:Int
 pin_:Int
 net_:Int
 drives_:Bool
def C_place:Bp Ak:=Bn (fun x=>(x.instance_,x.pin_,x.net_,x.drives_)) (Ai (AL .i64) (Ai (AL .i64) (Ai (AL .i64) BH)))
theorem Ei{w:World}{S:Nat->Prop}{x:Ak}{vs:List Value}(h:C_place.rep w S x vs):vs=[.int .i64 x.instance_,.int .i64 x.pin_,.int .i64 x.net_,.bool x.drives_]:=by
 simp only [C_place,Bn,Ai,AL,BH,At,Ci]at h
 obtain⟨_,_,rfl,rfl,⟨_,_,rfl,rfl,⟨_,_,rfl,rfl,rfl⟩⟩⟩:=h;exact rfl
theorem OD{w:World}{S:Nat->Prop}{x:Ak}:C_place.rep w S x [.int .i64 x.instance_,.int .i64 x.pin_,.int .i64 x.net_,.bool x.drives_]:=by
 simp only [C_place,Bn,Ai,AL,BH,At,Ci]
 exact⟨_,_,rfl,rfl,⟨_,_,rfl,rfl,⟨_,_,rfl,rfl,rfl⟩⟩⟩
instance:CM C_place:=by unfold C_place;infer_instance
structure Bc where
 From:Int
 To:Int
 Kind:Int
 Index:Int
def C_Link:Bp Bc:=Bn (fun x=>(x.From,x.To,x.Kind,x.Index)) (Ai (AL .i64) (Ai (AL .i64) (Ai (AL .i64) (AL .i64))))
theorem PE{w:World}{S:Nat->Prop}{x:Bc}:C_Link.rep w S x [.int .i64 x.From,.int .i64 x.To,.int .i64 x.Kind,.int .i64 x.Index]:=by
 simp only [C_Link,Bn,Ai,AL,BH,At,Ci]
 exact⟨_,_,rfl,rfl,⟨_,_,rfl,rfl,⟨_,_,rfl,rfl,rfl⟩⟩⟩
instance:CM C_Link:=by unfold C_Link;infer_instance
structure BU where
 Block:AQ
 places_:List Ak
 links_:List Bc
 loads_:List Int
 delays_:List Unit
 extras_:List Int
structure Ay where
 instance_:Int
 pin_:Int
 net_:Int
 drives_:Bool
def C_l05Place:Bp Ay:=Bn (fun x=>(x.instance_,x.pin_,x.net_,x.drives_)) (Ai (AL .i64) (Ai (AL .i64) (Ai (AL .i64) BH)))
theorem ET{w:World}{S:Nat->Prop}{x:Ay}{vs:List Value}(h:C_l05Place.rep w S x vs):vs=[.int .i64 x.instance_,.int .i64 x.pin_,.int .i64 x.net_,.bool x.drives_]:=by
 simp only [C_l05Place,Bn,Ai,AL,BH,At,Ci]at h
 obtain⟨_,_,rfl,rfl,⟨_,_,rfl,rfl,⟨_,_,rfl,rfl,rfl⟩⟩⟩:=h;exact rfl
theorem Kl{w:World}{S:Nat->Prop}{x:Ay}:C_l05Place.rep w S x [.int .i64 x.instance_,.int .i64 x.pin_,.int .i64 x.net_,.bool x.drives_]:=by
 simp only [C_l05Place,Bn,Ai,AL,BH,At,Ci]
 exact⟨_,_,rfl,rfl,⟨_,_,rfl,rfl,⟨_,_,rfl,rfl,rfl⟩⟩⟩
instance:CM C_l05Place:=by unfold C_l05Place;infer_instance
structure Bz where
 e0:Int
 e1:Int
def C_A2_Int:Bp Bz:=Bn (fun x=>(x.e0,x.e1)) (Ai (AL .i64) (AL .i64))
theorem OQ{w:World}{S:Nat->Prop}{x:Bz}{vs:List Value}(h:C_A2_Int.rep w S x vs):vs=[.int .i64 x.e0,.int .i64 x.e1]:=by
 simp only [C_A2_Int,Bn,Ai,AL,BH,At,Ci]at h
 obtain⟨_,_,rfl,rfl,rfl⟩:=h;exact rfl
theorem CN{w:World}{S:Nat->Prop}{x:Bz}:C_A2_Int.rep w S x [.int .i64 x.e0,.int .i64 x.e1]:=by
 simp only [C_A2_Int,Bn,Ai,AL,BH,At,Ci]
 exact⟨_,_,rfl,rfl,rfl⟩
instance:CM C_A2_Int:=by unfold C_A2_Int;infer_instance
structure Bh where
 index_:Int
 part_:Int
def C_weight:Bp Bh:=Bn (fun x=>(x.index_,x.part_)) (Ai (AL .i64) (AL .i64))
theorem Kh{w:World}{S:Nat->Prop}{x:Bh}{vs:List Value}(h:C_weight.rep w S x vs):vs=[.int .i64 x.index_,.int .i64 x.part_]:=by
 simp only [C_weight,Bn,Ai,AL,BH,At,Ci]at h
 obtain⟨_,_,rfl,rfl,rfl⟩:=h;exact rfl
theorem Ji{w:World}{S:Nat->Prop}{x:Bh}:C_weight.rep w S x [.int .i64 x.index_,.int .i64 x.part_]:=by
 simp only [C_weight,Bn,Ai,AL,BH,At,Ci]
 exact⟨_,_,rfl,rfl,rfl⟩
instance:CM C_weight:=by unfold C_weight;infer_instance
def Ki(k:IntKind)(x:Int):Prop:=k.min<=x∧x<=k.max
theorem Ki.i64{x:Int}(h:Ki .i64 x):-9223372036854775808<=x∧x<=9223372036854775807:=h
def Oz(x:BD):Prop:=(fun s=>s.size<=maxLen) x.Name∧(Ki .i64) x.Dir∧(Ki .i64) x.Cap∧(fun _=>True) x.Clock
def IY(x:AS):Prop:=(fun xs=>xs.length<=9223372036854775807∧∀x∈xs,(Ki .i64) x) x.Slews∧(fun xs=>xs.length<=9223372036854775807∧∀x∈xs,(Ki .i64) x) x.Loads∧(fun xs=>xs.length<=9223372036854775807∧∀x∈xs,(Ki .i64) x) x.Values
def PA(x:Ah):Prop:=(Ki .i64) x.Kind∧(Ki .i64) x.From∧(Ki .i64) x.To∧(Ki .i64) x.Sense∧(fun xs=>xs.length<=9223372036854775807∧∀x∈xs,IY x) x.Delay∧(fun xs=>xs.length<=9223372036854775807∧∀x∈xs,IY x) x.Slew
def MW(x:AX):Prop:=(fun s=>s.size<=maxLen) x.Name∧(Ki .i64) x.Kind∧(fun xs=>xs.length<=9223372036854775807∧∀x∈xs,Oz x) x.Pins∧(fun xs=>xs.length<=9223372036854775807∧∀x∈xs,PA x) x.Arcs∧(fun xs=>xs.length<=9223372036854775807∧∀x∈xs,(Ki .i64) x) x.Truth∧(Ki .i64) x.Leak∧(Ki .i64) x.Energy
def KU(x:Ab):Prop:=(fun xs=>xs.length<=9223372036854775807∧∀x∈xs,MW x) x.Cells
def FM(x:AO):Prop:=(fun s=>s.size<=maxLen) x.Name∧(Ki .i64) x.Cell∧(fun xs=>xs.length<=9223372036854775807∧∀x∈xs,(Ki .i64) x) x.Nets
def ML(x:BG):Prop:=(fun s=>s.size<=maxLen) x.Name∧(Ki .i64) x.Dir∧(Ki .i64) x.Net
def Ld(x:AP):Prop:=(fun xs=>xs.length<=9223372036854775807∧∀x∈xs,FM x) x.Instances∧(fun xs=>xs.length<=9223372036854775807∧∀x∈xs,(fun s=>s.size<=maxLen) x) x.Nets∧(fun xs=>xs.length<=9223372036854775807∧∀x∈xs,ML x) x.Ports
def MG(x:Ar):Prop:=(fun xs=>xs.length<=9223372036854775807∧∀x∈xs,(Ki .i64) x) x.Parent∧(fun xs=>xs.length<=9223372036854775807∧∀x∈xs,(Ki .i64) x) x.Res∧(fun xs=>xs.length<=9223372036854775807∧∀x∈xs,(Ki .i64) x) x.Cap∧(fun xs=>xs.length<=9223372036854775807∧∀x∈xs,(Ki .i64) x) x.Sink
def Mq(x:AQ):Prop:=KU x.Library∧Ld x.Design∧(fun xs=>xs.length<=9223372036854775807∧∀x∈xs,MG x) x.Wires
def Nz(x:AV):Prop:=(Ki .i64) x.Early∧(Ki .i64) x.Late
def NH(x:Ac):Prop:=(fun xs=>xs.length<=9223372036854775807∧∀x∈xs,(fun _=>True) x) x.Reached∧(fun xs=>xs.length<=9223372036854775807∧∀x∈xs,Nz x) x.Arrival∧(fun xs=>xs.length<=9223372036854775807∧∀x∈xs,Nz x) x.Slew
def Na(x:Aj):Prop:=(Ki .i64) x.Setup∧(Ki .i64) x.Hold∧(Ki .i64) x.Uncertainty
def JG(x:BD):Prop:=(fun s=>s.size<=1048576) x.Name∧(fun _=>True) x.Dir∧(fun _=>True) x.Cap∧(fun _=>True) x.Clock
def DT(x:AS):Prop:=(fun xs=>xs.length<=1048576∧∀x∈xs,(fun _=>True) x) x.Slews∧(fun xs=>xs.length<=1048576∧∀x∈xs,(fun _=>True) x) x.Loads∧(fun xs=>xs.length<=1048576∧∀x∈xs,(fun _=>True) x) x.Values
def JP(x:Ah):Prop:=(fun _=>True) x.Kind∧(fun _=>True) x.From∧(fun _=>True) x.To∧(fun _=>True) x.Sense∧(fun xs=>xs.length<=1048576∧∀x∈xs,DT x) x.Delay∧(fun xs=>xs.length<=1048576∧∀x∈xs,DT x) x.Slew
def Eo(x:AX):Prop:=(fun s=>s.size<=1048576) x.Name∧(fun _=>True) x.Kind∧(fun xs=>xs.length<=1048576∧∀x∈xs,JG x) x.Pins∧(fun xs=>xs.length<=1048576∧∀x∈xs,JP x) x.Arcs∧(fun xs=>xs.length<=1048576∧∀x∈xs,(fun _=>True) x) x.Truth∧(fun _=>True) x.Leak∧(fun _=>True) x.Energy
def Hj(x:Ab):Prop:=(fun xs=>xs.length<=1048576∧∀x∈xs,Eo x) x.Cells
def DY(x:AO):Prop:=(fun s=>s.size<=1048576) x.Name∧(fun _=>True) x.Cell∧(fun xs=>xs.length<=1048576∧∀x∈xs,(fun _=>True) x) x.Nets
def GX(x:BG):Prop:=(fun s=>s.size<=1048576) x.Name∧(fun _=>True) x.Dir∧(fun _=>True) x.Net
def KN(x:AP):Prop:=(fun xs=>xs.length<=1048576∧∀x∈xs,DY x) x.Instances∧(fun xs=>xs.length<=1048576∧∀x∈xs,(fun s=>s.size<=1048576) x) x.Nets∧(fun xs=>xs.length<=1048576∧∀x∈xs,GX x) x.Ports
def Gu(x:Ar):Prop:=(fun xs=>xs.length<=1048576∧∀x∈xs,(fun _=>True) x) x.Parent∧(fun xs=>xs.length<=1048576∧∀x∈xs,(fun _=>True) x) x.Res∧(fun xs=>xs.length<=1048576∧∀x∈xs,(fun _=>True) x) x.Cap∧(fun xs=>xs.length<=1048576∧∀x∈xs,(fun _=>True) x) x.Sink
def HU(x:AQ):Prop:=Hj x.Library∧KN x.Design∧(fun xs=>xs.length<=1048576∧∀x∈xs,Gu x) x.Wires
def Ga(x:AV):Prop:=(fun _=>True) x.Early∧(fun _=>True) x.Late
def Jt(x:Ac):Prop:=(fun xs=>xs.length<=1048576∧∀x∈xs,(fun _=>True) x) x.Reached∧(fun xs=>xs.length<=1048576∧∀x∈xs,Ga x) x.Arrival∧(fun xs=>xs.length<=1048576∧∀x∈xs,Ga x) x.Slew
def MH(x:AG):Prop:=(fun _=>True) x.Node∧Ga x.Required
end Go.Eng
