/- The data of the program, as plain Lean structures, and their cells; no condition. -/
import Derived.Test.YtaijnchdfgojiabGreatDoorEng
set_option linter.all false
namespace Go.Eng
open Go Go.RowKit
structure BQ where
 Name:ByteArray
 Dir:Int
 Cap:Int
 Clock:Bool
def C_Pin:CN BQ:=CM (fun x=>(x.Name,x.Dir,x.Cap,x.Clock)) (Ar Au (Ar (AI .i64) (Ar (AI .i64) Am)))
theorem Bk{w:World}{S:Nat->Prop}{x:BQ}{vs:List Value}(h:C_Pin.rep w S x vs):vs=[.string x.Name,.int .i64 x.Dir,.int .i64 x.Cap,.bool x.Clock]:=by
 simp only [C_Pin,CM,Ar,AI,Am,Au,Cl]at h
 obtain⟨_,_,rfl,rfl,⟨_,_,rfl,rfl,⟨_,_,rfl,rfl,rfl⟩⟩⟩:=h;exact rfl
theorem Sq{w:World}{S:Nat->Prop}{x:BQ}:C_Pin.rep w S x [.string x.Name,.int .i64 x.Dir,.int .i64 x.Cap,.bool x.Clock]:=by
 simp only [C_Pin,CM,Ar,AI,Am,Au,Cl]
 exact⟨_,_,rfl,rfl,⟨_,_,rfl,rfl,⟨_,_,rfl,rfl,rfl⟩⟩⟩
instance:DK C_Pin:=by unfold C_Pin;infer_instance
def C_PinS:CN BQ:=CM (fun x=>(x.Name,x.Dir,x.Cap,x.Clock)) (Ar Gf (Ar (CV .i64) (Ar (CV .i64) ID)))
instance:KC C_PinS:=by unfold C_PinS;infer_instance
instance:Eb C_Pin C_PinS:=by unfold C_Pin C_PinS;infer_instance
theorem Hj{w:World}{S:Nat->Prop}{x:BQ}{vs:List Value}(h:C_PinS.rep w S x vs):∃(a1:ByteArray) (a2:Int) (a3:Int) (a4:Bool),vs=[.string a1,.int .i64 a2,.int .i64 a3,.bool a4]:=by
 simp only [C_PinS,CM,Ar,CV,ID,Gf,Cl]at h
 obtain⟨_,_,rfl,⟨a1,rfl⟩,⟨_,_,rfl,⟨a2,rfl⟩,⟨_,_,rfl,⟨a3,rfl⟩,⟨a4,rfl⟩⟩⟩⟩:=h;exact⟨a1,a2,a3,a4,rfl⟩
structure Ab where
 Slews:List Int
 Loads:List Int
 Values:List Int
def C_Table:CN Ab:=CM (fun x=>(x.Slews,x.Loads,x.Values)) (Ar (Cl (AI .i64)) (Ar (Cl (AI .i64)) (Cl (AI .i64))))
theorem Ci{w:World}{S:Nat->Prop}{x:Ab}{vs:List Value}(h:C_Table.rep w S x vs):∃v1 v2 v3,vs=[v1,v2,v3]∧AD (AI .i64) w S x.Slews v1∧AD (AI .i64) w S x.Loads v2∧AD (AI .i64) w S x.Values v3:=by
 simp only [C_Table,CM,Ar,AI,Am,Au,Cl]at h
 obtain⟨_,_,rfl,⟨v1,rfl,h1⟩,⟨_,_,rfl,⟨v2,rfl,h2⟩,⟨v3,rfl,h3⟩⟩⟩:=h;exact⟨v1,v2,v3,rfl,h1,h2,h3⟩
theorem Pf{w:World}{S:Nat->Prop}{x:Ab}{v1 v2 v3:Value}(h1:AD (AI .i64) w S x.Slews v1)(h2:AD (AI .i64) w S x.Loads v2)(h3:AD (AI .i64) w S x.Values v3):C_Table.rep w S x [v1,v2,v3]:=by
 simp only [C_Table,CM,Ar,AI,Am,Au,Cl]
 exact⟨_,_,rfl,⟨_,rfl,h1⟩,⟨_,_,rfl,⟨_,rfl,h2⟩,⟨_,rfl,h3⟩⟩⟩
def C_TableS:CN Ab:=CM (fun x=>(x.Slews,x.Loads,x.Values)) (Ar (Cl (CV .i64)) (Ar (Cl (CV .i64)) (Cl (CV .i64))))
instance:KC C_TableS:=by unfold C_TableS;infer_instance
instance:Eb C_Table C_TableS:=by unfold C_Table C_TableS;infer_instance
theorem IK{w:World}{S:Nat->Prop}{x:Ab}{vs:List Value}(h:C_TableS.rep w S x vs):∃(v1:Value) (v2:Value) (v3:Value),vs=[v1,v2,v3]∧AD (CV .i64) w S x.Slews v1∧AD (CV .i64) w S x.Loads v2∧AD (CV .i64) w S x.Values v3:=by
 simp only [C_TableS,CM,Ar,CV,ID,Gf,Cl]at h
 obtain⟨_,_,rfl,⟨v1,rfl,h1⟩,⟨_,_,rfl,⟨v2,rfl,h2⟩,⟨v3,rfl,h3⟩⟩⟩:=h;exact⟨v1,v2,v3,rfl,h1,h2,h3⟩
structure Aq where
 Kind:Int
 From:Int
 To:Int
 Sense:Int
 Delay:List Ab
 Slew:List Ab
def C_Arc:CN Aq:=CM (fun x=>(x.Kind,x.From,x.To,x.Sense,x.Delay,x.Slew)) (Ar (AI .i64) (Ar (AI .i64) (Ar (AI .i64) (Ar (AI .i64) (Ar (Cl C_Table) (Cl C_Table))))))
theorem Bj{w:World}{S:Nat->Prop}{x:Aq}{vs:List Value}(h:C_Arc.rep w S x vs):∃v1 v2,vs=[.int .i64 x.Kind,.int .i64 x.From,.int .i64 x.To,.int .i64 x.Sense,v1,v2]∧AD C_Table w S x.Delay v1∧AD C_Table w S x.Slew v2:=by
 simp only [C_Arc,CM,Ar,AI,Am,Au,Cl]at h
 obtain⟨_,_,rfl,rfl,⟨_,_,rfl,rfl,⟨_,_,rfl,rfl,⟨_,_,rfl,rfl,⟨_,_,rfl,⟨v1,rfl,h1⟩,⟨v2,rfl,h2⟩⟩⟩⟩⟩⟩:=h;exact⟨v1,v2,rfl,h1,h2⟩
theorem SQ{w:World}{S:Nat->Prop}{x:Aq}{v1 v2:Value}(h1:AD C_Table w S x.Delay v1)(h2:AD C_Table w S x.Slew v2):C_Arc.rep w S x [.int .i64 x.Kind,.int .i64 x.From,.int .i64 x.To,.int .i64 x.Sense,v1,v2]:=by
 simp only [C_Arc,CM,Ar,AI,Am,Au,Cl]
 exact⟨_,_,rfl,rfl,⟨_,_,rfl,rfl,⟨_,_,rfl,rfl,⟨_,_,rfl,rfl,⟨_,_,rfl,⟨_,rfl,h1⟩,⟨_,rfl,h2⟩⟩⟩⟩⟩⟩
def C_ArcS:CN Aq:=CM (fun x=>(x.Kind,x.From,x.To,x.Sense,x.Delay,x.Slew)) (Ar (CV .i64) (Ar (CV .i64) (Ar (CV .i64) (Ar (CV .i64) (Ar (Cl C_TableS) (Cl C_TableS))))))
instance:KC C_ArcS:=by unfold C_ArcS;infer_instance
instance:Eb C_Arc C_ArcS:=by unfold C_Arc C_ArcS;infer_instance
theorem FQ{w:World}{S:Nat->Prop}{x:Aq}{vs:List Value}(h:C_ArcS.rep w S x vs):∃(a1:Int) (a2:Int) (a3:Int) (a4:Int) (v1:Value) (v2:Value),vs=[.int .i64 a1,.int .i64 a2,.int .i64 a3,.int .i64 a4,v1,v2]∧AD C_TableS w S x.Delay v1∧AD C_TableS w S x.Slew v2:=by
 simp only [C_ArcS,CM,Ar,CV,ID,Gf,Cl]at h
 obtain⟨_,_,rfl,⟨a1,rfl⟩,⟨_,_,rfl,⟨a2,rfl⟩,⟨_,_,rfl,⟨a3,rfl⟩,⟨_,_,rfl,⟨a4,rfl⟩,⟨_,_,rfl,⟨v1,rfl,h1⟩,⟨v2,rfl,h2⟩⟩⟩⟩⟩⟩:=h;exact⟨a1,a2,a3,a4,v1,v2,rfl,h1,h2⟩
structure Af where
 Name:ByteArray
 Kind:Int
 Pins:List BQ
 Arcs:List Aq
 Truth:List Int
 Leak:Int
 Energy:Int
def C_Cell:CN Af:=CM (fun x=>(x.Name,x.Kind,x.Pins,x.Arcs,x.Truth,x.Leak,x.Energy)) (Ar Au (Ar (AI .i64) (Ar (Cl C_Pin) (Ar (Cl C_Arc) (Ar (Cl (AI .i64)) (Ar (AI .i64) (AI .i64)))))))
theorem Bo{w:World}{S:Nat->Prop}{x:Af}{vs:List Value}(h:C_Cell.rep w S x vs):∃v1 v2 v3,vs=[.string x.Name,.int .i64 x.Kind,v1,v2,v3,.int .i64 x.Leak,.int .i64 x.Energy]∧AD C_Pin w S x.Pins v1∧AD C_Arc w S x.Arcs v2∧AD (AI .i64) w S x.Truth v3:=by
 simp only [C_Cell,CM,Ar,AI,Am,Au,Cl]at h
 obtain⟨_,_,rfl,rfl,⟨_,_,rfl,rfl,⟨_,_,rfl,⟨v1,rfl,h1⟩,⟨_,_,rfl,⟨v2,rfl,h2⟩,⟨_,_,rfl,⟨v3,rfl,h3⟩,⟨_,_,rfl,rfl,rfl⟩⟩⟩⟩⟩⟩:=h;exact⟨v1,v2,v3,rfl,h1,h2,h3⟩
theorem Qf{w:World}{S:Nat->Prop}{x:Af}{v1 v2 v3:Value}(h1:AD C_Pin w S x.Pins v1)(h2:AD C_Arc w S x.Arcs v2)(h3:AD (AI .i64) w S x.Truth v3):C_Cell.rep w S x [.string x.Name,.int .i64 x.Kind,v1,v2,v3,.int .i64 x.Leak,.int .i64 x.Energy]:=by
 simp only [C_Cell,CM,Ar,AI,Am,Au,Cl]
 exact⟨_,_,rfl,rfl,⟨_,_,rfl,rfl,⟨_,_,rfl,⟨_,rfl,h1⟩,⟨_,_,rfl,⟨_,rfl,h2⟩,⟨_,_,rfl,⟨_,rfl,h3⟩,⟨_,_,rfl,rfl,rfl⟩⟩⟩⟩⟩⟩
def C_CellS:CN Af:=CM (fun x=>(x.Name,x.Kind,x.Pins,x.Arcs,x.Truth,x.Leak,x.Energy)) (Ar Gf (Ar (CV .i64) (Ar (Cl C_PinS) (Ar (Cl C_ArcS) (Ar (Cl (CV .i64)) (Ar (CV .i64) (CV .i64)))))))
instance:KC C_CellS:=by unfold C_CellS;infer_instance
instance:Eb C_Cell C_CellS:=by unfold C_Cell C_CellS;infer_instance
theorem EO{w:World}{S:Nat->Prop}{x:Af}{vs:List Value}(h:C_CellS.rep w S x vs):∃(a1:ByteArray) (a2:Int) (a3:Int) (a4:Int) (v1:Value) (v2:Value) (v3:Value),vs=[.string a1,.int .i64 a2,v1,v2,v3,.int .i64 a3,.int .i64 a4]∧AD C_PinS w S x.Pins v1∧AD C_ArcS w S x.Arcs v2∧AD (CV .i64) w S x.Truth v3:=by
 simp only [C_CellS,CM,Ar,CV,ID,Gf,Cl]at h
 obtain⟨_,_,rfl,⟨a1,rfl⟩,⟨_,_,rfl,⟨a2,rfl⟩,⟨_,_,rfl,⟨v1,rfl,h1⟩,⟨_,_,rfl,⟨v2,rfl,h2⟩,⟨_,_,rfl,⟨v3,rfl,h3⟩,⟨_,_,rfl,⟨a3,rfl⟩,⟨a4,rfl⟩⟩⟩⟩⟩⟩⟩:=h;exact⟨a1,a2,a3,a4,v1,v2,v3,rfl,h1,h2,h3⟩
structure Ad where
 Cells:List Af
def Np:CN Ad:=CM (fun x=>x.Cells) (Cl C_Cell)
structure AX where
 Name:ByteArray
 Cell:Int
 Nets:List Int
def C_Instance:CN AX:=CM (fun x=>(x.Name,x.Cell,x.Nets)) (Ar Au (Ar (AI .i64) (Cl (AI .i64))))
theorem BJ{w:World}{S:Nat->Prop}{x:AX}{vs:List Value}(h:C_Instance.rep w S x vs):∃v1,vs=[.string x.Name,.int .i64 x.Cell,v1]∧AD (AI .i64) w S x.Nets v1:=by
 simp only [C_Instance,CM,Ar,AI,Am,Au,Cl]at h
 obtain⟨_,_,rfl,rfl,⟨_,_,rfl,rfl,⟨v1,rfl,h1⟩⟩⟩:=h;exact⟨v1,rfl,h1⟩
theorem MI{w:World}{S:Nat->Prop}{x:AX}{v1:Value}(h1:AD (AI .i64) w S x.Nets v1):C_Instance.rep w S x [.string x.Name,.int .i64 x.Cell,v1]:=by
 simp only [C_Instance,CM,Ar,AI,Am,Au,Cl]
 exact⟨_,_,rfl,rfl,⟨_,_,rfl,rfl,⟨_,rfl,h1⟩⟩⟩
def C_InstanceS:CN AX:=CM (fun x=>(x.Name,x.Cell,x.Nets)) (Ar Gf (Ar (CV .i64) (Cl (CV .i64))))
instance:KC C_InstanceS:=by unfold C_InstanceS;infer_instance
instance:Eb C_Instance C_InstanceS:=by unfold C_Instance C_InstanceS;infer_instance
theorem GG{w:World}{S:Nat->Prop}{x:AX}{vs:List Value}(h:C_InstanceS.rep w S x vs):∃(a1:ByteArray) (a2:Int) (v1:Value),vs=[.string a1,.int .i64 a2,v1]∧AD (CV .i64) w S x.Nets v1:=by
 simp only [C_InstanceS,CM,Ar,CV,ID,Gf,Cl]at h
 obtain⟨_,_,rfl,⟨a1,rfl⟩,⟨_,_,rfl,⟨a2,rfl⟩,⟨v1,rfl,h1⟩⟩⟩:=h;exact⟨a1,a2,v1,rfl,h1⟩
structure BN where
 Name:ByteArray
 Dir:Int
 Net:Int
def C_Port:CN BN:=CM (fun x=>(x.Name,x.Dir,x.Net)) (Ar Au (Ar (AI .i64) (AI .i64)))
theorem CI{w:World}{S:Nat->Prop}{x:BN}{vs:List Value}(h:C_Port.rep w S x vs):vs=[.string x.Name,.int .i64 x.Dir,.int .i64 x.Net]:=by
 simp only [C_Port,CM,Ar,AI,Am,Au,Cl]at h
 obtain⟨_,_,rfl,rfl,⟨_,_,rfl,rfl,rfl⟩⟩:=h;exact rfl
theorem QY{w:World}{S:Nat->Prop}{x:BN}:C_Port.rep w S x [.string x.Name,.int .i64 x.Dir,.int .i64 x.Net]:=by
 simp only [C_Port,CM,Ar,AI,Am,Au,Cl]
 exact⟨_,_,rfl,rfl,⟨_,_,rfl,rfl,rfl⟩⟩
instance:DK C_Port:=by unfold C_Port;infer_instance
def C_PortS:CN BN:=CM (fun x=>(x.Name,x.Dir,x.Net)) (Ar Gf (Ar (CV .i64) (CV .i64)))
instance:KC C_PortS:=by unfold C_PortS;infer_instance
instance:Eb C_Port C_PortS:=by unfold C_Port C_PortS;infer_instance
theorem Jr{w:World}{S:Nat->Prop}{x:BN}{vs:List Value}(h:C_PortS.rep w S x vs):∃(a1:ByteArray) (a2:Int) (a3:Int),vs=[.string a1,.int .i64 a2,.int .i64 a3]:=by
 simp only [C_PortS,CM,Ar,CV,ID,Gf,Cl]at h
 obtain⟨_,_,rfl,⟨a1,rfl⟩,⟨_,_,rfl,⟨a2,rfl⟩,⟨a3,rfl⟩⟩⟩:=h;exact⟨a1,a2,a3,rfl⟩
structure AQ where
 Instances:List AX
 Nets:List ByteArray
 Ports:List BN
def Ph:CN AQ:=CM (fun x=>(x.Instances,x.Nets,x.Ports)) (Ar (Cl C_Instance) (Ar (Cl Au) (Cl C_Port)))
structure Aw where
 Parent:List Int
 Res:List Int
 Cap:List Int
 Sink:List Int
def C_Wire:CN Aw:=CM (fun x=>(x.Parent,x.Res,x.Cap,x.Sink)) (Ar (Cl (AI .i64)) (Ar (Cl (AI .i64)) (Ar (Cl (AI .i64)) (Cl (AI .i64)))))
theorem CL{w:World}{S:Nat->Prop}{x:Aw}{vs:List Value}(h:C_Wire.rep w S x vs):∃v1 v2 v3 v4,vs=[v1,v2,v3,v4]∧AD (AI .i64) w S x.Parent v1∧AD (AI .i64) w S x.Res v2∧AD (AI .i64) w S x.Cap v3∧AD (AI .i64) w S x.Sink v4:=by
 simp only [C_Wire,CM,Ar,AI,Am,Au,Cl]at h
 obtain⟨_,_,rfl,⟨v1,rfl,h1⟩,⟨_,_,rfl,⟨v2,rfl,h2⟩,⟨_,_,rfl,⟨v3,rfl,h3⟩,⟨v4,rfl,h4⟩⟩⟩⟩:=h;exact⟨v1,v2,v3,v4,rfl,h1,h2,h3,h4⟩
theorem QK{w:World}{S:Nat->Prop}{x:Aw}{v1 v2 v3 v4:Value}(h1:AD (AI .i64) w S x.Parent v1)(h2:AD (AI .i64) w S x.Res v2)(h3:AD (AI .i64) w S x.Cap v3)(h4:AD (AI .i64) w S x.Sink v4):C_Wire.rep w S x [v1,v2,v3,v4]:=by
 simp only [C_Wire,CM,Ar,AI,Am,Au,Cl]
 exact⟨_,_,rfl,⟨_,rfl,h1⟩,⟨_,_,rfl,⟨_,rfl,h2⟩,⟨_,_,rfl,⟨_,rfl,h3⟩,⟨_,rfl,h4⟩⟩⟩⟩
def C_WireS:CN Aw:=CM (fun x=>(x.Parent,x.Res,x.Cap,x.Sink)) (Ar (Cl (CV .i64)) (Ar (Cl (CV .i64)) (Ar (Cl (CV .i64)) (Cl (CV .i64)))))
instance:KC C_WireS:=by unfold C_WireS;infer_instance
instance:Eb C_Wire C_WireS:=by unfold C_Wire C_WireS;infer_instance
theorem HH{w:World}{S:Nat->Prop}{x:Aw}{vs:List Value}(h:C_WireS.rep w S x vs):∃(v1:Value) (v2:Value) (v3:Value) (v4:Value),vs=[v1,v2,v3,v4]∧AD (CV .i64) w S x.Parent v1∧AD (CV .i64) w S x.Res v2∧AD (CV .i64) w S x.Cap v3∧AD (CV .i64) w S x.Sink v4:=by
 simp only [C_WireS,CM,Ar,CV,ID,Gf,Cl]at h
 obtain⟨_,_,rfl,⟨v1,rfl,h1⟩,⟨_,_,rfl,⟨v2,rfl,h2⟩,⟨_,_,rfl,⟨v3,rfl,h3⟩,⟨v4,rfl,h4⟩⟩⟩⟩:=h;exact⟨v1,v2,v3,v4,rfl,h1,h2,h3,h4⟩
structure AM where
 Library:Ad
 Design:AQ
 Wires:List Aw
def C_Block:CN AM:=CM (fun x=>(x.Library,x.Design,x.Wires)) (Ar Np (Ar Ph (Cl C_Wire)))
theorem mK{w:World}{S:Nat->Prop}{x:AM}{vs:List Value}(h:C_Block.rep w S x vs):∃v1 v2 v3 v4 v5,vs=[v1,v2,v3,v4,v5]∧AD C_Cell w S x.Library.Cells v1∧AD C_Instance w S x.Design.Instances v2∧AD Au w S x.Design.Nets v3∧AD C_Port w S x.Design.Ports v4∧AD C_Wire w S x.Wires v5:=by
 simp only [C_Block,CM,Ar,AI,Am,Au,Cl,Np,Ph]at h
 obtain⟨_,_,rfl,⟨v1,rfl,h1⟩,⟨_,_,rfl,⟨_,_,rfl,⟨v2,rfl,h2⟩,⟨_,_,rfl,⟨v3,rfl,h3⟩,⟨v4,rfl,h4⟩⟩⟩,⟨v5,rfl,h5⟩⟩⟩:=h;exact⟨v1,v2,v3,v4,v5,rfl,h1,h2,h3,h4,h5⟩
structure Ak where
 Name:ByteArray
 CellEarly:Int
 CellLate:Int
 WireEarly:Int
 WireLate:Int
def C_Corner:CN Ak:=CM (fun x=>(x.Name,x.CellEarly,x.CellLate,x.WireEarly,x.WireLate)) (Ar Au (Ar (AI .i64) (Ar (AI .i64) (Ar (AI .i64) (AI .i64)))))
theorem iL{w:World}{S:Nat->Prop}{x:Ak}{vs:List Value}(h:C_Corner.rep w S x vs):vs=[.string x.Name,.int .i64 x.CellEarly,.int .i64 x.CellLate,.int .i64 x.WireEarly,.int .i64 x.WireLate]:=by
 simp only [C_Corner,CM,Ar,AI,Am,Au,Cl]at h
 obtain⟨_,_,rfl,rfl,⟨_,_,rfl,rfl,⟨_,_,rfl,rfl,⟨_,_,rfl,rfl,rfl⟩⟩⟩⟩:=h;exact rfl
instance:DK C_Corner:=by unfold C_Corner;infer_instance
structure AO where
 Early:Int
 Late:Int
def C_Span:CN AO:=CM (fun x=>(x.Early,x.Late)) (Ar (AI .i64) (AI .i64))
theorem BH{w:World}{S:Nat->Prop}{x:AO}{vs:List Value}(h:C_Span.rep w S x vs):vs=[.int .i64 x.Early,.int .i64 x.Late]:=by
 simp only [C_Span,CM,Ar,AI,Am,Au,Cl]at h
 obtain⟨_,_,rfl,rfl,rfl⟩:=h;exact rfl
theorem FR{w:World}{S:Nat->Prop}{x:AO}:C_Span.rep w S x [.int .i64 x.Early,.int .i64 x.Late]:=by
 simp only [C_Span,CM,Ar,AI,Am,Au,Cl]
 exact⟨_,_,rfl,rfl,rfl⟩
instance:DK C_Span:=by unfold C_Span;infer_instance
structure Ap where
 Reached:List Bool
 Arrival:List AO
 Slew:List AO
def C_Timing:CN Ap:=CM (fun x=>(x.Reached,x.Arrival,x.Slew)) (Ar (Cl Am) (Ar (Cl C_Span) (Cl C_Span)))
theorem iO{w:World}{S:Nat->Prop}{x:Ap}{vs:List Value}(h:C_Timing.rep w S x vs):∃v1 v2 v3,vs=[v1,v2,v3]∧AD Am w S x.Reached v1∧AD C_Span w S x.Arrival v2∧AD C_Span w S x.Slew v3:=by
 simp only [C_Timing,CM,Ar,AI,Am,Au,Cl]at h
 obtain⟨_,_,rfl,⟨v1,rfl,h1⟩,⟨_,_,rfl,⟨v2,rfl,h2⟩,⟨v3,rfl,h3⟩⟩⟩:=h;exact⟨v1,v2,v3,rfl,h1,h2,h3⟩
structure BL where
 Bound:List Bool
 Required:List AO
structure AJ where
 Node:Int
 Required:AO
def C_Target:CN AJ:=CM (fun x=>(x.Node,x.Required)) (Ar (AI .i64) C_Span)
theorem Ba{w:World}{S:Nat->Prop}{x:AJ}{vs:List Value}(h:C_Target.rep w S x vs):vs=[.int .i64 x.Node,.int .i64 x.Required.Early,.int .i64 x.Required.Late]:=by
 simp only [C_Target,CM,Ar,AI,Am,Au,Cl,C_Span]at h
 obtain⟨_,_,rfl,rfl,⟨_,_,rfl,rfl,rfl⟩⟩:=h;exact rfl
theorem Gj{w:World}{S:Nat->Prop}{x:AJ}:C_Target.rep w S x [.int .i64 x.Node,.int .i64 x.Required.Early,.int .i64 x.Required.Late]:=by
 simp only [C_Target,CM,Ar,AI,Am,Au,Cl,C_Span]
 exact⟨_,_,rfl,rfl,⟨_,_,rfl,rfl,rfl⟩⟩
instance:DK C_Target:=by unfold C_Target;infer_instance
structure AU where
 From:Int
 To:Int
 Kind:Int
 Index:Int
def C_Link:CN AU:=CM (fun x=>(x.From,x.To,x.Kind,x.Index)) (Ar (AI .i64) (Ar (AI .i64) (Ar (AI .i64) (AI .i64))))
theorem Cp{w:World}{S:Nat->Prop}{x:AU}{vs:List Value}(h:C_Link.rep w S x vs):vs=[.int .i64 x.From,.int .i64 x.To,.int .i64 x.Kind,.int .i64 x.Index]:=by
 simp only [C_Link,CM,Ar,AI,Am,Au,Cl]at h
 obtain⟨_,_,rfl,rfl,⟨_,_,rfl,rfl,⟨_,_,rfl,rfl,rfl⟩⟩⟩:=h;exact rfl
theorem OL{w:World}{S:Nat->Prop}{x:AU}:C_Link.rep w S x [.int .i64 x.From,.int .i64 x.To,.int .i64 x.Kind,.int .i64 x.Index]:=by
 simp only [C_Link,CM,Ar,AI,Am,Au,Cl]
 exact⟨_,_,rfl,rfl,⟨_,_,rfl,rfl,⟨_,_,rfl,rfl,rfl⟩⟩⟩
instance:DK C_Link:=by unfold C_Link;infer_instance
structure At where
 instance_:Int
 pin_:Int
 net_:Int
 drives_:Bool
def C_place:CN At:=CM (fun x=>(x.instance_,x.pin_,x.net_,x.drives_)) (Ar (AI .i64) (Ar (AI .i64) (Ar (AI .i64) Am)))
theorem Es{w:World}{S:Nat->Prop}{x:At}{vs:List Value}(h:C_place.rep w S x vs):vs=[.int .i64 x.instance_,.int .i64 x.pin_,.int .i64 x.net_,.bool x.drives_]:=by
 simp only [C_place,CM,Ar,AI,Am,Au,Cl]at h
 obtain⟨_,_,rfl,rfl,⟨_,_,rfl,rfl,⟨_,_,rfl,rfl,rfl⟩⟩⟩:=h;exact rfl
theorem PP{w:World}{S:Nat->Prop}{x:At}:C_place.rep w S x [.int .i64 x.instance_,.int .i64 x.pin_,.int .i64 x.net_,.bool x.drives_]:=by
 simp only [C_place,CM,Ar,AI,Am,Au,Cl]
 exact⟨_,_,rfl,rfl,⟨_,_,rfl,rfl,⟨_,_,rfl,rfl,rfl⟩⟩⟩
instance:DK C_place:=by unfold C_place;infer_instance
structure BO where
 Block:AM
 places_:List At
 links_:List AU
 loads_:List Int
 delays_:List (List Int)
 extras_:List Int
structure BS where
 view_:BO
 live_:List Bool
structure Ay where
 instance_:Int
 pin_:Int
 net_:Int
 drives_:Bool
def C_l05Place:CN Ay:=CM (fun x=>(x.instance_,x.pin_,x.net_,x.drives_)) (Ar (AI .i64) (Ar (AI .i64) (Ar (AI .i64) Am)))
theorem CS{w:World}{S:Nat->Prop}{x:Ay}{vs:List Value}(h:C_l05Place.rep w S x vs):vs=[.int .i64 x.instance_,.int .i64 x.pin_,.int .i64 x.net_,.bool x.drives_]:=by
 simp only [C_l05Place,CM,Ar,AI,Am,Au,Cl]at h
 obtain⟨_,_,rfl,rfl,⟨_,_,rfl,rfl,⟨_,_,rfl,rfl,rfl⟩⟩⟩:=h;exact rfl
theorem MO{w:World}{S:Nat->Prop}{x:Ay}:C_l05Place.rep w S x [.int .i64 x.instance_,.int .i64 x.pin_,.int .i64 x.net_,.bool x.drives_]:=by
 simp only [C_l05Place,CM,Ar,AI,Am,Au,Cl]
 exact⟨_,_,rfl,rfl,⟨_,_,rfl,rfl,⟨_,_,rfl,rfl,rfl⟩⟩⟩
instance:DK C_l05Place:=by unfold C_l05Place;infer_instance
structure CA where
 e0:Int
 e1:Int
def C_A2_Int:CN CA:=CM (fun x=>(x.e0,x.e1)) (Ar (AI .i64) (AI .i64))
theorem Py{w:World}{S:Nat->Prop}{x:CA}{vs:List Value}(h:C_A2_Int.rep w S x vs):vs=[.int .i64 x.e0,.int .i64 x.e1]:=by
 simp only [C_A2_Int,CM,Ar,AI,Am,Au,Cl]at h
 obtain⟨_,_,rfl,rfl,rfl⟩:=h;exact rfl
theorem Cr{w:World}{S:Nat->Prop}{x:CA}:C_A2_Int.rep w S x [.int .i64 x.e0,.int .i64 x.e1]:=by
 simp only [C_A2_Int,CM,Ar,AI,Am,Au,Cl]
 exact⟨_,_,rfl,rfl,rfl⟩
instance:DK C_A2_Int:=by unfold C_A2_Int;infer_instance
structure Bw where
 index_:Int
 part_:Int
def C_weight:CN Bw:=CM (fun x=>(x.index_,x.part_)) (Ar (AI .i64) (AI .i64))
theorem ML{w:World}{S:Nat->Prop}{x:Bw}{vs:List Value}(h:C_weight.rep w S x vs):vs=[.int .i64 x.index_,.int .i64 x.part_]:=by
 simp only [C_weight,CM,Ar,AI,Am,Au,Cl]at h
 obtain⟨_,_,rfl,rfl,rfl⟩:=h;exact rfl
theorem Ke{w:World}{S:Nat->Prop}{x:Bw}:C_weight.rep w S x [.int .i64 x.index_,.int .i64 x.part_]:=by
 simp only [C_weight,CM,Ar,AI,Am,Au,Cl]
 exact⟨_,_,rfl,rfl,rfl⟩
instance:DK C_weight:=by unfold C_weight;infer_instance
def Ku(k:IntKind)(x:Int):Prop:=k.min<=x∧x<=k.max
theorem Ku.i64{x:Int}(h:Ku .i64 x):-9223372036854775808<=x∧x<=9223372036854775807:=h
def QT(x:BQ):Prop:=(fun s=>s.size<=maxLen) x.Name∧(Ku .i64) x.Dir∧(Ku .i64) x.Cap∧(fun _=>True) x.Clock
def Jt(x:Ab):Prop:=(fun xs=>xs.length<=9223372036854775807∧∀x∈xs,(Ku .i64) x) x.Slews∧(fun xs=>xs.length<=9223372036854775807∧∀x∈xs,(Ku .i64) x) x.Loads∧(fun xs=>xs.length<=9223372036854775807∧∀x∈xs,(Ku .i64) x) x.Values
def QU(x:Aq):Prop:=(Ku .i64) x.Kind∧(Ku .i64) x.From∧(Ku .i64) x.To∧(Ku .i64) x.Sense∧(fun xs=>xs.length<=9223372036854775807∧∀x∈xs,Jt x) x.Delay∧(fun xs=>xs.length<=9223372036854775807∧∀x∈xs,Jt x) x.Slew
def Nx(x:Af):Prop:=(fun s=>s.size<=maxLen) x.Name∧(Ku .i64) x.Kind∧(fun xs=>xs.length<=9223372036854775807∧∀x∈xs,QT x) x.Pins∧(fun xs=>xs.length<=9223372036854775807∧∀x∈xs,QU x) x.Arcs∧(fun xs=>xs.length<=9223372036854775807∧∀x∈xs,(Ku .i64) x) x.Truth∧(Ku .i64) x.Leak∧(Ku .i64) x.Energy
def MA(x:Ad):Prop:=(fun xs=>xs.length<=9223372036854775807∧∀x∈xs,Nx x) x.Cells
def GK(x:AX):Prop:=(fun s=>s.size<=maxLen) x.Name∧(Ku .i64) x.Cell∧(fun xs=>xs.length<=9223372036854775807∧∀x∈xs,(Ku .i64) x) x.Nets
def OG(x:BN):Prop:=(fun s=>s.size<=maxLen) x.Name∧(Ku .i64) x.Dir∧(Ku .i64) x.Net
def NU(x:AQ):Prop:=(fun xs=>xs.length<=9223372036854775807∧∀x∈xs,GK x) x.Instances∧(fun xs=>xs.length<=9223372036854775807∧∀x∈xs,(fun s=>s.size<=maxLen) x) x.Nets∧(fun xs=>xs.length<=9223372036854775807∧∀x∈xs,OG x) x.Ports
def OC(x:Aw):Prop:=(fun xs=>xs.length<=9223372036854775807∧∀x∈xs,(Ku .i64) x) x.Parent∧(fun xs=>xs.length<=9223372036854775807∧∀x∈xs,(Ku .i64) x) x.Res∧(fun xs=>xs.length<=9223372036854775807∧∀x∈xs,(Ku .i64) x) x.Cap∧(fun xs=>xs.length<=9223372036854775807∧∀x∈xs,(Ku .i64) x) x.Sink
def Oj(x:AM):Prop:=MA x.Library∧NU x.Design∧(fun xs=>xs.length<=9223372036854775807∧∀x∈xs,OC x) x.Wires
def Pq(x:Ak):Prop:=(fun s=>s.size<=maxLen) x.Name∧(Ku .i64) x.CellEarly∧(Ku .i64) x.CellLate∧(Ku .i64) x.WireEarly∧(Ku .i64) x.WireLate
def Nu(x:AO):Prop:=(Ku .i64) x.Early∧(Ku .i64) x.Late
def Ou(x:Ap):Prop:=(fun xs=>xs.length<=9223372036854775807∧∀x∈xs,(fun _=>True) x) x.Reached∧(fun xs=>xs.length<=9223372036854775807∧∀x∈xs,Nu x) x.Arrival∧(fun xs=>xs.length<=9223372036854775807∧∀x∈xs,Nu x) x.Slew
def NL(x:AJ):Prop:=(Ku .i64) x.Node∧Nu x.Required
def Kk(x:BQ):Prop:=(fun s=>s.size<=1048576) x.Name∧(fun _=>True) x.Dir∧(fun _=>True) x.Cap∧(fun _=>True) x.Clock
def EF(x:Ab):Prop:=(fun xs=>xs.length<=1048576∧∀x∈xs,(fun _=>True) x) x.Slews∧(fun xs=>xs.length<=1048576∧∀x∈xs,(fun _=>True) x) x.Loads∧(fun xs=>xs.length<=1048576∧∀x∈xs,(fun _=>True) x) x.Values
def Kp(x:Aq):Prop:=(fun _=>True) x.Kind∧(fun _=>True) x.From∧(fun _=>True) x.To∧(fun _=>True) x.Sense∧(fun xs=>xs.length<=1048576∧∀x∈xs,EF x) x.Delay∧(fun xs=>xs.length<=1048576∧∀x∈xs,EF x) x.Slew
def FY(x:Af):Prop:=(fun s=>s.size<=1048576) x.Name∧(fun _=>True) x.Kind∧(fun xs=>xs.length<=1048576∧∀x∈xs,Kk x) x.Pins∧(fun xs=>xs.length<=1048576∧∀x∈xs,Kp x) x.Arcs∧(fun xs=>xs.length<=1048576∧∀x∈xs,(fun _=>True) x) x.Truth∧(fun _=>True) x.Leak∧(fun _=>True) x.Energy
def Iy(x:Ad):Prop:=(fun xs=>xs.length<=1048576∧∀x∈xs,FY x) x.Cells
def EJ(x:AX):Prop:=(fun s=>s.size<=1048576) x.Name∧(fun _=>True) x.Cell∧(fun xs=>xs.length<=1048576∧∀x∈xs,(fun _=>True) x) x.Nets
def Hh(x:BN):Prop:=(fun s=>s.size<=1048576) x.Name∧(fun _=>True) x.Dir∧(fun _=>True) x.Net
def Ld(x:AQ):Prop:=(fun xs=>xs.length<=1048576∧∀x∈xs,EJ x) x.Instances∧(fun xs=>xs.length<=1048576∧∀x∈xs,(fun s=>s.size<=1048576) x) x.Nets∧(fun xs=>xs.length<=1048576∧∀x∈xs,Hh x) x.Ports
def Hx(x:Aw):Prop:=(fun xs=>xs.length<=1048576∧∀x∈xs,(fun _=>True) x) x.Parent∧(fun xs=>xs.length<=1048576∧∀x∈xs,(fun _=>True) x) x.Res∧(fun xs=>xs.length<=1048576∧∀x∈xs,(fun _=>True) x) x.Cap∧(fun xs=>xs.length<=1048576∧∀x∈xs,(fun _=>True) x) x.Sink
def IU(x:AM):Prop:=Iy x.Library∧Ld x.Design∧(fun xs=>xs.length<=1048576∧∀x∈xs,Hx x) x.Wires
def QO(x:Ak):Prop:=(fun s=>s.size<=1048576) x.Name∧(fun _=>True) x.CellEarly∧(fun _=>True) x.CellLate∧(fun _=>True) x.WireEarly∧(fun _=>True) x.WireLate
def HK(x:AO):Prop:=(fun _=>True) x.Early∧(fun _=>True) x.Late
def Lm(x:Ap):Prop:=(fun xs=>xs.length<=1048576∧∀x∈xs,(fun _=>True) x) x.Reached∧(fun xs=>xs.length<=1048576∧∀x∈xs,HK x) x.Arrival∧(fun xs=>xs.length<=1048576∧∀x∈xs,HK x) x.Slew
def PI(x:BL):Prop:=(fun xs=>xs.length<=1048576∧∀x∈xs,(fun _=>True) x) x.Bound∧(fun xs=>xs.length<=1048576∧∀x∈xs,HK x) x.Required
def Ij(x:AJ):Prop:=(fun _=>True) x.Node∧HK x.Required
end Go.Eng
