/- The data of the program, as plain Lean structures, and their cells; no condition. -/
import Derived.Test.YtpfgoednlfjebaaGreatDoorEng
set_option linter.all false
namespace Go.Eng
open Go Go.RowKit
structure S_Pin where
 Name:ByteArray
 Dir:Int
 Cap:Int
 Clock:Bool
def C_Pin:Cod S_Pin:=cMap (fun x=>(x.Name,x.Dir,x.Cap,x.Clock)) (cPair cStr (cPair (cInt .i64) (cPair (cInt .i64) cBool)))
theorem C_Pin_open {w:World} {S:Nat → Prop} {x:S_Pin} {vs:List Value} (h:C_Pin.rep w S x vs):vs = [.string x.Name,.int .i64 x.Dir,.int .i64 x.Cap,.bool x.Clock]:=by
 simp only [C_Pin,cMap,cPair,cInt,cBool,cStr,cSl] at h
 obtain ⟨_,_,rfl,rfl,⟨_,_,rfl,rfl,⟨_,_,rfl,rfl,rfl⟩⟩⟩:=h; exact rfl
theorem C_Pin_mk {w:World} {S:Nat → Prop} {x:S_Pin}:C_Pin.rep w S x [.string x.Name,.int .i64 x.Dir,.int .i64 x.Cap,.bool x.Clock]:=by
 simp only [C_Pin,cMap,cPair,cInt,cBool,cStr,cSl]
 exact ⟨_,_,rfl,rfl,⟨_,_,rfl,rfl,⟨_,_,rfl,rfl,rfl⟩⟩⟩
instance:Flat C_Pin:=by unfold C_Pin; infer_instance
def C_PinS:Cod S_Pin:=cMap (fun x=>(x.Name,x.Dir,x.Cap,x.Clock)) (cPair cStrS (cPair (cIntS .i64) (cPair (cIntS .i64) cBoolS)))
instance:Soft C_PinS:=by unfold C_PinS; infer_instance
instance:SoftOf C_Pin C_PinS:=by unfold C_Pin C_PinS; infer_instance
theorem C_PinS_open {w:World} {S:Nat → Prop} {x:S_Pin} {vs:List Value} (h:C_PinS.rep w S x vs):∃ (a1:ByteArray) (a2:Int) (a3:Int) (a4:Bool),vs = [.string a1,.int .i64 a2,.int .i64 a3,.bool a4]:=by
 simp only [C_PinS,cMap,cPair,cIntS,cBoolS,cStrS,cSl] at h
 obtain ⟨_,_,rfl,⟨a1,rfl⟩,⟨_,_,rfl,⟨a2,rfl⟩,⟨_,_,rfl,⟨a3,rfl⟩,⟨a4,rfl⟩⟩⟩⟩:=h; exact ⟨a1,a2,a3,a4,rfl⟩
structure S_Table where
 Slews:List Int
 Loads:List Int
 Values:List Int
def C_Table:Cod S_Table:=cMap (fun x=>(x.Slews,x.Loads,x.Values)) (cPair (cSl (cInt .i64)) (cPair (cSl (cInt .i64)) (cSl (cInt .i64))))
theorem C_Table_open {w:World} {S:Nat → Prop} {x:S_Table} {vs:List Value} (h:C_Table.rep w S x vs):∃ v1 v2 v3,vs = [v1,v2,v3] ∧ slRep (cInt .i64) w S x.Slews v1 ∧ slRep (cInt .i64) w S x.Loads v2 ∧ slRep (cInt .i64) w S x.Values v3:=by
 simp only [C_Table,cMap,cPair,cInt,cBool,cStr,cSl] at h
 obtain ⟨_,_,rfl,⟨v1,rfl,h1⟩,⟨_,_,rfl,⟨v2,rfl,h2⟩,⟨v3,rfl,h3⟩⟩⟩:=h; exact ⟨v1,v2,v3,rfl,h1,h2,h3⟩
theorem C_Table_mk {w:World} {S:Nat → Prop} {x:S_Table} {v1 v2 v3:Value} (h1:slRep (cInt .i64) w S x.Slews v1) (h2:slRep (cInt .i64) w S x.Loads v2) (h3:slRep (cInt .i64) w S x.Values v3):C_Table.rep w S x [v1,v2,v3]:=by
 simp only [C_Table,cMap,cPair,cInt,cBool,cStr,cSl]
 exact ⟨_,_,rfl,⟨_,rfl,h1⟩,⟨_,_,rfl,⟨_,rfl,h2⟩,⟨_,rfl,h3⟩⟩⟩
def C_TableS:Cod S_Table:=cMap (fun x=>(x.Slews,x.Loads,x.Values)) (cPair (cSl (cIntS .i64)) (cPair (cSl (cIntS .i64)) (cSl (cIntS .i64))))
instance:Soft C_TableS:=by unfold C_TableS; infer_instance
instance:SoftOf C_Table C_TableS:=by unfold C_Table C_TableS; infer_instance
theorem C_TableS_open {w:World} {S:Nat → Prop} {x:S_Table} {vs:List Value} (h:C_TableS.rep w S x vs):∃ (v1:Value) (v2:Value) (v3:Value),vs = [v1,v2,v3] ∧ slRep (cIntS .i64) w S x.Slews v1 ∧ slRep (cIntS .i64) w S x.Loads v2 ∧ slRep (cIntS .i64) w S x.Values v3:=by
 simp only [C_TableS,cMap,cPair,cIntS,cBoolS,cStrS,cSl] at h
 obtain ⟨_,_,rfl,⟨v1,rfl,h1⟩,⟨_,_,rfl,⟨v2,rfl,h2⟩,⟨v3,rfl,h3⟩⟩⟩:=h; exact ⟨v1,v2,v3,rfl,h1,h2,h3⟩
structure S_Arc where
 Kind:Int
 From:Int
 To:Int
 Sense:Int
 Delay:List S_Table
 Slew:List S_Table
def C_Arc:Cod S_Arc:=cMap (fun x=>(x.Kind,x.From,x.To,x.Sense,x.Delay,x.Slew)) (cPair (cInt .i64) (cPair (cInt .i64) (cPair (cInt .i64) (cPair (cInt .i64) (cPair (cSl C_Table) (cSl C_Table))))))
theorem C_Arc_open {w:World} {S:Nat → Prop} {x:S_Arc} {vs:List Value} (h:C_Arc.rep w S x vs):∃ v1 v2,vs = [.int .i64 x.Kind,.int .i64 x.From,.int .i64 x.To,.int .i64 x.Sense,v1,v2] ∧ slRep C_Table w S x.Delay v1 ∧ slRep C_Table w S x.Slew v2:=by
 simp only [C_Arc,cMap,cPair,cInt,cBool,cStr,cSl] at h
 obtain ⟨_,_,rfl,rfl,⟨_,_,rfl,rfl,⟨_,_,rfl,rfl,⟨_,_,rfl,rfl,⟨_,_,rfl,⟨v1,rfl,h1⟩,⟨v2,rfl,h2⟩⟩⟩⟩⟩⟩:=h; exact ⟨v1,v2,rfl,h1,h2⟩
theorem C_Arc_mk {w:World} {S:Nat → Prop} {x:S_Arc} {v1 v2:Value} (h1:slRep C_Table w S x.Delay v1) (h2:slRep C_Table w S x.Slew v2):C_Arc.rep w S x [.int .i64 x.Kind,.int .i64 x.From,.int .i64 x.To,.int .i64 x.Sense,v1,v2]:=by
 simp only [C_Arc,cMap,cPair,cInt,cBool,cStr,cSl]
 exact ⟨_,_,rfl,rfl,⟨_,_,rfl,rfl,⟨_,_,rfl,rfl,⟨_,_,rfl,rfl,⟨_,_,rfl,⟨_,rfl,h1⟩,⟨_,rfl,h2⟩⟩⟩⟩⟩⟩
def C_ArcS:Cod S_Arc:=cMap (fun x=>(x.Kind,x.From,x.To,x.Sense,x.Delay,x.Slew)) (cPair (cIntS .i64) (cPair (cIntS .i64) (cPair (cIntS .i64) (cPair (cIntS .i64) (cPair (cSl C_TableS) (cSl C_TableS))))))
instance:Soft C_ArcS:=by unfold C_ArcS; infer_instance
instance:SoftOf C_Arc C_ArcS:=by unfold C_Arc C_ArcS; infer_instance
theorem C_ArcS_open {w:World} {S:Nat → Prop} {x:S_Arc} {vs:List Value} (h:C_ArcS.rep w S x vs):∃ (a1:Int) (a2:Int) (a3:Int) (a4:Int) (v1:Value) (v2:Value),vs = [.int .i64 a1,.int .i64 a2,.int .i64 a3,.int .i64 a4,v1,v2] ∧ slRep C_TableS w S x.Delay v1 ∧ slRep C_TableS w S x.Slew v2:=by
 simp only [C_ArcS,cMap,cPair,cIntS,cBoolS,cStrS,cSl] at h
 obtain ⟨_,_,rfl,⟨a1,rfl⟩,⟨_,_,rfl,⟨a2,rfl⟩,⟨_,_,rfl,⟨a3,rfl⟩,⟨_,_,rfl,⟨a4,rfl⟩,⟨_,_,rfl,⟨v1,rfl,h1⟩,⟨v2,rfl,h2⟩⟩⟩⟩⟩⟩:=h; exact ⟨a1,a2,a3,a4,v1,v2,rfl,h1,h2⟩
structure S_Cell where
 Name:ByteArray
 Kind:Int
 Pins:List S_Pin
 Arcs:List S_Arc
 Truth:List Int
 Leak:Int
 Energy:Int
def C_Cell:Cod S_Cell:=cMap (fun x=>(x.Name,x.Kind,x.Pins,x.Arcs,x.Truth,x.Leak,x.Energy)) (cPair cStr (cPair (cInt .i64) (cPair (cSl C_Pin) (cPair (cSl C_Arc) (cPair (cSl (cInt .i64)) (cPair (cInt .i64) (cInt .i64)))))))
theorem C_Cell_open {w:World} {S:Nat → Prop} {x:S_Cell} {vs:List Value} (h:C_Cell.rep w S x vs):∃ v1 v2 v3,vs = [.string x.Name,.int .i64 x.Kind,v1,v2,v3,.int .i64 x.Leak,.int .i64 x.Energy] ∧ slRep C_Pin w S x.Pins v1 ∧ slRep C_Arc w S x.Arcs v2 ∧ slRep (cInt .i64) w S x.Truth v3:=by
 simp only [C_Cell,cMap,cPair,cInt,cBool,cStr,cSl] at h
 obtain ⟨_,_,rfl,rfl,⟨_,_,rfl,rfl,⟨_,_,rfl,⟨v1,rfl,h1⟩,⟨_,_,rfl,⟨v2,rfl,h2⟩,⟨_,_,rfl,⟨v3,rfl,h3⟩,⟨_,_,rfl,rfl,rfl⟩⟩⟩⟩⟩⟩:=h; exact ⟨v1,v2,v3,rfl,h1,h2,h3⟩
theorem C_Cell_mk {w:World} {S:Nat → Prop} {x:S_Cell} {v1 v2 v3:Value} (h1:slRep C_Pin w S x.Pins v1) (h2:slRep C_Arc w S x.Arcs v2) (h3:slRep (cInt .i64) w S x.Truth v3):C_Cell.rep w S x [.string x.Name,.int .i64 x.Kind,v1,v2,v3,.int .i64 x.Leak,.int .i64 x.Energy]:=by
 simp only [C_Cell,cMap,cPair,cInt,cBool,cStr,cSl]
 exact ⟨_,_,rfl,rfl,⟨_,_,rfl,rfl,⟨_,_,rfl,⟨_,rfl,h1⟩,⟨_,_,rfl,⟨_,rfl,h2⟩,⟨_,_,rfl,⟨_,rfl,h3⟩,⟨_,_,rfl,rfl,rfl⟩⟩⟩⟩⟩⟩
def C_CellS:Cod S_Cell:=cMap (fun x=>(x.Name,x.Kind,x.Pins,x.Arcs,x.Truth,x.Leak,x.Energy)) (cPair cStrS (cPair (cIntS .i64) (cPair (cSl C_PinS) (cPair (cSl C_ArcS) (cPair (cSl (cIntS .i64)) (cPair (cIntS .i64) (cIntS .i64)))))))
instance:Soft C_CellS:=by unfold C_CellS; infer_instance
instance:SoftOf C_Cell C_CellS:=by unfold C_Cell C_CellS; infer_instance
theorem C_CellS_open {w:World} {S:Nat → Prop} {x:S_Cell} {vs:List Value} (h:C_CellS.rep w S x vs):∃ (a1:ByteArray) (a2:Int) (a3:Int) (a4:Int) (v1:Value) (v2:Value) (v3:Value),vs = [.string a1,.int .i64 a2,v1,v2,v3,.int .i64 a3,.int .i64 a4] ∧ slRep C_PinS w S x.Pins v1 ∧ slRep C_ArcS w S x.Arcs v2 ∧ slRep (cIntS .i64) w S x.Truth v3:=by
 simp only [C_CellS,cMap,cPair,cIntS,cBoolS,cStrS,cSl] at h
 obtain ⟨_,_,rfl,⟨a1,rfl⟩,⟨_,_,rfl,⟨a2,rfl⟩,⟨_,_,rfl,⟨v1,rfl,h1⟩,⟨_,_,rfl,⟨v2,rfl,h2⟩,⟨_,_,rfl,⟨v3,rfl,h3⟩,⟨_,_,rfl,⟨a3,rfl⟩,⟨a4,rfl⟩⟩⟩⟩⟩⟩⟩:=h; exact ⟨a1,a2,a3,a4,v1,v2,v3,rfl,h1,h2,h3⟩
structure S_Library where
 Cells:List S_Cell
def C_Library:Cod S_Library:=cMap (fun x=>x.Cells) (cSl C_Cell)
structure S_Instance where
 Name:ByteArray
 Cell:Int
 Nets:List Int
def C_Instance:Cod S_Instance:=cMap (fun x=>(x.Name,x.Cell,x.Nets)) (cPair cStr (cPair (cInt .i64) (cSl (cInt .i64))))
theorem C_Instance_open {w:World} {S:Nat → Prop} {x:S_Instance} {vs:List Value} (h:C_Instance.rep w S x vs):∃ v1,vs = [.string x.Name,.int .i64 x.Cell,v1] ∧ slRep (cInt .i64) w S x.Nets v1:=by
 simp only [C_Instance,cMap,cPair,cInt,cBool,cStr,cSl] at h
 obtain ⟨_,_,rfl,rfl,⟨_,_,rfl,rfl,⟨v1,rfl,h1⟩⟩⟩:=h; exact ⟨v1,rfl,h1⟩
theorem C_Instance_mk {w:World} {S:Nat → Prop} {x:S_Instance} {v1:Value} (h1:slRep (cInt .i64) w S x.Nets v1):C_Instance.rep w S x [.string x.Name,.int .i64 x.Cell,v1]:=by
 simp only [C_Instance,cMap,cPair,cInt,cBool,cStr,cSl]
 exact ⟨_,_,rfl,rfl,⟨_,_,rfl,rfl,⟨_,rfl,h1⟩⟩⟩
def C_InstanceS:Cod S_Instance:=cMap (fun x=>(x.Name,x.Cell,x.Nets)) (cPair cStrS (cPair (cIntS .i64) (cSl (cIntS .i64))))
instance:Soft C_InstanceS:=by unfold C_InstanceS; infer_instance
instance:SoftOf C_Instance C_InstanceS:=by unfold C_Instance C_InstanceS; infer_instance
theorem C_InstanceS_open {w:World} {S:Nat → Prop} {x:S_Instance} {vs:List Value} (h:C_InstanceS.rep w S x vs):∃ (a1:ByteArray) (a2:Int) (v1:Value),vs = [.string a1,.int .i64 a2,v1] ∧ slRep (cIntS .i64) w S x.Nets v1:=by
 simp only [C_InstanceS,cMap,cPair,cIntS,cBoolS,cStrS,cSl] at h
 obtain ⟨_,_,rfl,⟨a1,rfl⟩,⟨_,_,rfl,⟨a2,rfl⟩,⟨v1,rfl,h1⟩⟩⟩:=h; exact ⟨a1,a2,v1,rfl,h1⟩
structure S_Port where
 Name:ByteArray
 Dir:Int
 Net:Int
def C_Port:Cod S_Port:=cMap (fun x=>(x.Name,x.Dir,x.Net)) (cPair cStr (cPair (cInt .i64) (cInt .i64)))
theorem C_Port_open {w:World} {S:Nat → Prop} {x:S_Port} {vs:List Value} (h:C_Port.rep w S x vs):vs = [.string x.Name,.int .i64 x.Dir,.int .i64 x.Net]:=by
 simp only [C_Port,cMap,cPair,cInt,cBool,cStr,cSl] at h
 obtain ⟨_,_,rfl,rfl,⟨_,_,rfl,rfl,rfl⟩⟩:=h; exact rfl
theorem C_Port_mk {w:World} {S:Nat → Prop} {x:S_Port}:C_Port.rep w S x [.string x.Name,.int .i64 x.Dir,.int .i64 x.Net]:=by
 simp only [C_Port,cMap,cPair,cInt,cBool,cStr,cSl]
 exact ⟨_,_,rfl,rfl,⟨_,_,rfl,rfl,rfl⟩⟩
instance:Flat C_Port:=by unfold C_Port; infer_instance
def C_PortS:Cod S_Port:=cMap (fun x=>(x.Name,x.Dir,x.Net)) (cPair cStrS (cPair (cIntS .i64) (cIntS .i64)))
instance:Soft C_PortS:=by unfold C_PortS; infer_instance
instance:SoftOf C_Port C_PortS:=by unfold C_Port C_PortS; infer_instance
theorem C_PortS_open {w:World} {S:Nat → Prop} {x:S_Port} {vs:List Value} (h:C_PortS.rep w S x vs):∃ (a1:ByteArray) (a2:Int) (a3:Int),vs = [.string a1,.int .i64 a2,.int .i64 a3]:=by
 simp only [C_PortS,cMap,cPair,cIntS,cBoolS,cStrS,cSl] at h
 obtain ⟨_,_,rfl,⟨a1,rfl⟩,⟨_,_,rfl,⟨a2,rfl⟩,⟨a3,rfl⟩⟩⟩:=h; exact ⟨a1,a2,a3,rfl⟩
structure S_Design where
 Instances:List S_Instance
 Nets:List ByteArray
 Ports:List S_Port
def C_Design:Cod S_Design:=cMap (fun x=>(x.Instances,x.Nets,x.Ports)) (cPair (cSl C_Instance) (cPair (cSl cStr) (cSl C_Port)))
structure S_Wire where
 Parent:List Int
 Res:List Int
 Cap:List Int
 Sink:List Int
def C_Wire:Cod S_Wire:=cMap (fun x=>(x.Parent,x.Res,x.Cap,x.Sink)) (cPair (cSl (cInt .i64)) (cPair (cSl (cInt .i64)) (cPair (cSl (cInt .i64)) (cSl (cInt .i64)))))
theorem C_Wire_open {w:World} {S:Nat → Prop} {x:S_Wire} {vs:List Value} (h:C_Wire.rep w S x vs):∃ v1 v2 v3 v4,vs = [v1,v2,v3,v4] ∧ slRep (cInt .i64) w S x.Parent v1 ∧ slRep (cInt .i64) w S x.Res v2 ∧ slRep (cInt .i64) w S x.Cap v3 ∧ slRep (cInt .i64) w S x.Sink v4:=by
 simp only [C_Wire,cMap,cPair,cInt,cBool,cStr,cSl] at h
 obtain ⟨_,_,rfl,⟨v1,rfl,h1⟩,⟨_,_,rfl,⟨v2,rfl,h2⟩,⟨_,_,rfl,⟨v3,rfl,h3⟩,⟨v4,rfl,h4⟩⟩⟩⟩:=h; exact ⟨v1,v2,v3,v4,rfl,h1,h2,h3,h4⟩
theorem C_Wire_mk {w:World} {S:Nat → Prop} {x:S_Wire} {v1 v2 v3 v4:Value} (h1:slRep (cInt .i64) w S x.Parent v1) (h2:slRep (cInt .i64) w S x.Res v2) (h3:slRep (cInt .i64) w S x.Cap v3) (h4:slRep (cInt .i64) w S x.Sink v4):C_Wire.rep w S x [v1,v2,v3,v4]:=by
 simp only [C_Wire,cMap,cPair,cInt,cBool,cStr,cSl]
 exact ⟨_,_,rfl,⟨_,rfl,h1⟩,⟨_,_,rfl,⟨_,rfl,h2⟩,⟨_,_,rfl,⟨_,rfl,h3⟩,⟨_,rfl,h4⟩⟩⟩⟩
def C_WireS:Cod S_Wire:=cMap (fun x=>(x.Parent,x.Res,x.Cap,x.Sink)) (cPair (cSl (cIntS .i64)) (cPair (cSl (cIntS .i64)) (cPair (cSl (cIntS .i64)) (cSl (cIntS .i64)))))
instance:Soft C_WireS:=by unfold C_WireS; infer_instance
instance:SoftOf C_Wire C_WireS:=by unfold C_Wire C_WireS; infer_instance
theorem C_WireS_open {w:World} {S:Nat → Prop} {x:S_Wire} {vs:List Value} (h:C_WireS.rep w S x vs):∃ (v1:Value) (v2:Value) (v3:Value) (v4:Value),vs = [v1,v2,v3,v4] ∧ slRep (cIntS .i64) w S x.Parent v1 ∧ slRep (cIntS .i64) w S x.Res v2 ∧ slRep (cIntS .i64) w S x.Cap v3 ∧ slRep (cIntS .i64) w S x.Sink v4:=by
 simp only [C_WireS,cMap,cPair,cIntS,cBoolS,cStrS,cSl] at h
 obtain ⟨_,_,rfl,⟨v1,rfl,h1⟩,⟨_,_,rfl,⟨v2,rfl,h2⟩,⟨_,_,rfl,⟨v3,rfl,h3⟩,⟨v4,rfl,h4⟩⟩⟩⟩:=h; exact ⟨v1,v2,v3,v4,rfl,h1,h2,h3,h4⟩
structure S_Block where
 Library:S_Library
 Design:S_Design
 Wires:List S_Wire
def C_Block:Cod S_Block:=cMap (fun x=>(x.Library,x.Design,x.Wires)) (cPair C_Library (cPair C_Design (cSl C_Wire)))
theorem C_Block_open {w:World} {S:Nat → Prop} {x:S_Block} {vs:List Value} (h:C_Block.rep w S x vs):∃ v1 v2 v3 v4 v5,vs = [v1,v2,v3,v4,v5] ∧ slRep C_Cell w S x.Library.Cells v1 ∧ slRep C_Instance w S x.Design.Instances v2 ∧ slRep cStr w S x.Design.Nets v3 ∧ slRep C_Port w S x.Design.Ports v4 ∧ slRep C_Wire w S x.Wires v5:=by
 simp only [C_Block,cMap,cPair,cInt,cBool,cStr,cSl,C_Library,C_Design] at h
 obtain ⟨_,_,rfl,⟨v1,rfl,h1⟩,⟨_,_,rfl,⟨_,_,rfl,⟨v2,rfl,h2⟩,⟨_,_,rfl,⟨v3,rfl,h3⟩,⟨v4,rfl,h4⟩⟩⟩,⟨v5,rfl,h5⟩⟩⟩:=h; exact ⟨v1,v2,v3,v4,v5,rfl,h1,h2,h3,h4,h5⟩
structure S_Link where
 From:Int
 To:Int
 Kind:Int
 Index:Int
def C_Link:Cod S_Link:=cMap (fun x=>(x.From,x.To,x.Kind,x.Index)) (cPair (cInt .i64) (cPair (cInt .i64) (cPair (cInt .i64) (cInt .i64))))
theorem C_Link_open {w:World} {S:Nat → Prop} {x:S_Link} {vs:List Value} (h:C_Link.rep w S x vs):vs = [.int .i64 x.From,.int .i64 x.To,.int .i64 x.Kind,.int .i64 x.Index]:=by
 simp only [C_Link,cMap,cPair,cInt,cBool,cStr,cSl] at h
 obtain ⟨_,_,rfl,rfl,⟨_,_,rfl,rfl,⟨_,_,rfl,rfl,rfl⟩⟩⟩:=h; exact rfl
theorem C_Link_mk {w:World} {S:Nat → Prop} {x:S_Link}:C_Link.rep w S x [.int .i64 x.From,.int .i64 x.To,.int .i64 x.Kind,.int .i64 x.Index]:=by
 simp only [C_Link,cMap,cPair,cInt,cBool,cStr,cSl]
 exact ⟨_,_,rfl,rfl,⟨_,_,rfl,rfl,⟨_,_,rfl,rfl,rfl⟩⟩⟩
instance:Flat C_Link:=by unfold C_Link; infer_instance
structure S_l05Place where
 instance_:Int
 pin_:Int
 net_:Int
 drives_:Bool
def C_l05Place:Cod S_l05Place:=cMap (fun x=>(x.instance_,x.pin_,x.net_,x.drives_)) (cPair (cInt .i64) (cPair (cInt .i64) (cPair (cInt .i64) cBool)))
theorem C_l05Place_open {w:World} {S:Nat → Prop} {x:S_l05Place} {vs:List Value} (h:C_l05Place.rep w S x vs):vs = [.int .i64 x.instance_,.int .i64 x.pin_,.int .i64 x.net_,.bool x.drives_]:=by
 simp only [C_l05Place,cMap,cPair,cInt,cBool,cStr,cSl] at h
 obtain ⟨_,_,rfl,rfl,⟨_,_,rfl,rfl,⟨_,_,rfl,rfl,rfl⟩⟩⟩:=h; exact rfl
theorem C_l05Place_mk {w:World} {S:Nat → Prop} {x:S_l05Place}:C_l05Place.rep w S x [.int .i64 x.instance_,.int .i64 x.pin_,.int .i64 x.net_,.bool x.drives_]:=by
 simp only [C_l05Place,cMap,cPair,cInt,cBool,cStr,cSl]
 exact ⟨_,_,rfl,rfl,⟨_,_,rfl,rfl,⟨_,_,rfl,rfl,rfl⟩⟩⟩
instance:Flat C_l05Place:=by unfold C_l05Place; infer_instance
structure S_place where
 instance_:Int
 pin_:Int
 net_:Int
 drives_:Bool
def C_place:Cod S_place:=cMap (fun x=>(x.instance_,x.pin_,x.net_,x.drives_)) (cPair (cInt .i64) (cPair (cInt .i64) (cPair (cInt .i64) cBool)))
theorem C_place_open {w:World} {S:Nat → Prop} {x:S_place} {vs:List Value} (h:C_place.rep w S x vs):vs = [.int .i64 x.instance_,.int .i64 x.pin_,.int .i64 x.net_,.bool x.drives_]:=by
 simp only [C_place,cMap,cPair,cInt,cBool,cStr,cSl] at h
 obtain ⟨_,_,rfl,rfl,⟨_,_,rfl,rfl,⟨_,_,rfl,rfl,rfl⟩⟩⟩:=h; exact rfl
theorem C_place_mk {w:World} {S:Nat → Prop} {x:S_place}:C_place.rep w S x [.int .i64 x.instance_,.int .i64 x.pin_,.int .i64 x.net_,.bool x.drives_]:=by
 simp only [C_place,cMap,cPair,cInt,cBool,cStr,cSl]
 exact ⟨_,_,rfl,rfl,⟨_,_,rfl,rfl,⟨_,_,rfl,rfl,rfl⟩⟩⟩
instance:Flat C_place:=by unfold C_place; infer_instance
structure S_view where
 Block:S_Block
 places_:List S_place
 links_:List S_Link
 loads_:List Int
 delays_:List Unit
 extras_:List Int
structure S_graph where
 view_:S_view
 live_:List Bool
structure A2_Int where
 e0:Int
 e1:Int
def C_A2_Int:Cod A2_Int:=cMap (fun x=>(x.e0,x.e1)) (cPair (cInt .i64) (cInt .i64))
theorem C_A2_Int_open {w:World} {S:Nat → Prop} {x:A2_Int} {vs:List Value} (h:C_A2_Int.rep w S x vs):vs = [.int .i64 x.e0,.int .i64 x.e1]:=by
 simp only [C_A2_Int,cMap,cPair,cInt,cBool,cStr,cSl] at h
 obtain ⟨_,_,rfl,rfl,rfl⟩:=h; exact rfl
theorem C_A2_Int_mk {w:World} {S:Nat → Prop} {x:A2_Int}:C_A2_Int.rep w S x [.int .i64 x.e0,.int .i64 x.e1]:=by
 simp only [C_A2_Int,cMap,cPair,cInt,cBool,cStr,cSl]
 exact ⟨_,_,rfl,rfl,rfl⟩
instance:Flat C_A2_Int:=by unfold C_A2_Int; infer_instance
structure S_Span where
 Early:Int
 Late:Int
def inK (k:IntKind) (x:Int):Prop:=k.min ≤ x ∧ x ≤ k.max
theorem inK.i64 {x:Int} (h:inK .i64 x):-9223372036854775808 ≤ x ∧ x ≤ 9223372036854775807:=h
def R_Pin (x:S_Pin):Prop:=(fun s=>s.size ≤ maxLen) x.Name ∧ (inK .i64) x.Dir ∧ (inK .i64) x.Cap ∧ (fun _=>True) x.Clock
def R_Table (x:S_Table):Prop:=(fun xs=>xs.length ≤ 9223372036854775807 ∧ ∀ x ∈ xs,(inK .i64) x) x.Slews ∧ (fun xs=>xs.length ≤ 9223372036854775807 ∧ ∀ x ∈ xs,(inK .i64) x) x.Loads ∧ (fun xs=>xs.length ≤ 9223372036854775807 ∧ ∀ x ∈ xs,(inK .i64) x) x.Values
def R_Arc (x:S_Arc):Prop:=(inK .i64) x.Kind ∧ (inK .i64) x.From ∧ (inK .i64) x.To ∧ (inK .i64) x.Sense ∧ (fun xs=>xs.length ≤ 9223372036854775807 ∧ ∀ x ∈ xs,R_Table x) x.Delay ∧ (fun xs=>xs.length ≤ 9223372036854775807 ∧ ∀ x ∈ xs,R_Table x) x.Slew
def R_Cell (x:S_Cell):Prop:=(fun s=>s.size ≤ maxLen) x.Name ∧ (inK .i64) x.Kind ∧ (fun xs=>xs.length ≤ 9223372036854775807 ∧ ∀ x ∈ xs,R_Pin x) x.Pins ∧ (fun xs=>xs.length ≤ 9223372036854775807 ∧ ∀ x ∈ xs,R_Arc x) x.Arcs ∧ (fun xs=>xs.length ≤ 9223372036854775807 ∧ ∀ x ∈ xs,(inK .i64) x) x.Truth ∧ (inK .i64) x.Leak ∧ (inK .i64) x.Energy
def R_Library (x:S_Library):Prop:=(fun xs=>xs.length ≤ 9223372036854775807 ∧ ∀ x ∈ xs,R_Cell x) x.Cells
def R_Instance (x:S_Instance):Prop:=(fun s=>s.size ≤ maxLen) x.Name ∧ (inK .i64) x.Cell ∧ (fun xs=>xs.length ≤ 9223372036854775807 ∧ ∀ x ∈ xs,(inK .i64) x) x.Nets
def R_Port (x:S_Port):Prop:=(fun s=>s.size ≤ maxLen) x.Name ∧ (inK .i64) x.Dir ∧ (inK .i64) x.Net
def R_Design (x:S_Design):Prop:=(fun xs=>xs.length ≤ 9223372036854775807 ∧ ∀ x ∈ xs,R_Instance x) x.Instances ∧ (fun xs=>xs.length ≤ 9223372036854775807 ∧ ∀ x ∈ xs,(fun s=>s.size ≤ maxLen) x) x.Nets ∧ (fun xs=>xs.length ≤ 9223372036854775807 ∧ ∀ x ∈ xs,R_Port x) x.Ports
def R_Wire (x:S_Wire):Prop:=(fun xs=>xs.length ≤ 9223372036854775807 ∧ ∀ x ∈ xs,(inK .i64) x) x.Parent ∧ (fun xs=>xs.length ≤ 9223372036854775807 ∧ ∀ x ∈ xs,(inK .i64) x) x.Res ∧ (fun xs=>xs.length ≤ 9223372036854775807 ∧ ∀ x ∈ xs,(inK .i64) x) x.Cap ∧ (fun xs=>xs.length ≤ 9223372036854775807 ∧ ∀ x ∈ xs,(inK .i64) x) x.Sink
def R_Block (x:S_Block):Prop:=R_Library x.Library ∧ R_Design x.Design ∧ (fun xs=>xs.length ≤ 9223372036854775807 ∧ ∀ x ∈ xs,R_Wire x) x.Wires
def SM_Pin (x:S_Pin):Prop:=(fun s=>s.size ≤ 1048576) x.Name ∧ (fun _=>True) x.Dir ∧ (fun _=>True) x.Cap ∧ (fun _=>True) x.Clock
def SM_Table (x:S_Table):Prop:=(fun xs=>xs.length ≤ 1048576 ∧ ∀ x ∈ xs,(fun _=>True) x) x.Slews ∧ (fun xs=>xs.length ≤ 1048576 ∧ ∀ x ∈ xs,(fun _=>True) x) x.Loads ∧ (fun xs=>xs.length ≤ 1048576 ∧ ∀ x ∈ xs,(fun _=>True) x) x.Values
def SM_Arc (x:S_Arc):Prop:=(fun _=>True) x.Kind ∧ (fun _=>True) x.From ∧ (fun _=>True) x.To ∧ (fun _=>True) x.Sense ∧ (fun xs=>xs.length ≤ 1048576 ∧ ∀ x ∈ xs,SM_Table x) x.Delay ∧ (fun xs=>xs.length ≤ 1048576 ∧ ∀ x ∈ xs,SM_Table x) x.Slew
def SM_Cell (x:S_Cell):Prop:=(fun s=>s.size ≤ 1048576) x.Name ∧ (fun _=>True) x.Kind ∧ (fun xs=>xs.length ≤ 1048576 ∧ ∀ x ∈ xs,SM_Pin x) x.Pins ∧ (fun xs=>xs.length ≤ 1048576 ∧ ∀ x ∈ xs,SM_Arc x) x.Arcs ∧ (fun xs=>xs.length ≤ 1048576 ∧ ∀ x ∈ xs,(fun _=>True) x) x.Truth ∧ (fun _=>True) x.Leak ∧ (fun _=>True) x.Energy
def SM_Library (x:S_Library):Prop:=(fun xs=>xs.length ≤ 1048576 ∧ ∀ x ∈ xs,SM_Cell x) x.Cells
def SM_Instance (x:S_Instance):Prop:=(fun s=>s.size ≤ 1048576) x.Name ∧ (fun _=>True) x.Cell ∧ (fun xs=>xs.length ≤ 1048576 ∧ ∀ x ∈ xs,(fun _=>True) x) x.Nets
def SM_Port (x:S_Port):Prop:=(fun s=>s.size ≤ 1048576) x.Name ∧ (fun _=>True) x.Dir ∧ (fun _=>True) x.Net
def SM_Design (x:S_Design):Prop:=(fun xs=>xs.length ≤ 1048576 ∧ ∀ x ∈ xs,SM_Instance x) x.Instances ∧ (fun xs=>xs.length ≤ 1048576 ∧ ∀ x ∈ xs,(fun s=>s.size ≤ 1048576) x) x.Nets ∧ (fun xs=>xs.length ≤ 1048576 ∧ ∀ x ∈ xs,SM_Port x) x.Ports
def SM_Wire (x:S_Wire):Prop:=(fun xs=>xs.length ≤ 1048576 ∧ ∀ x ∈ xs,(fun _=>True) x) x.Parent ∧ (fun xs=>xs.length ≤ 1048576 ∧ ∀ x ∈ xs,(fun _=>True) x) x.Res ∧ (fun xs=>xs.length ≤ 1048576 ∧ ∀ x ∈ xs,(fun _=>True) x) x.Cap ∧ (fun xs=>xs.length ≤ 1048576 ∧ ∀ x ∈ xs,(fun _=>True) x) x.Sink
def SM_Block (x:S_Block):Prop:=SM_Library x.Library ∧ SM_Design x.Design ∧ (fun xs=>xs.length ≤ 1048576 ∧ ∀ x ∈ xs,SM_Wire x) x.Wires
end Go.Eng
