/- The data of the program, as plain Lean structures, and their cells; no condition. -/
import Derived.Test.YthojemmmflaicaaGreatDoorEng
set_option linter.all false
namespace Go.Eng
open Go Go.RowKit
structure Bz where
 Name:ByteArray
 Dir:Int
 Cap:Int
 Clock:Bool
def C_Pin:Cq Bz:=Dd (fun x=>(x.Name,x.Dir,x.Cap,x.Clock)) (BW Au (BW (AG .i64) (BW (AG .i64) BG)))
theorem Cm{w:World}{S:Nat->Prop}{x:Bz}{vs:List Value}(h:C_Pin.rep w S x vs):vs=[.string x.Name,.int .i64 x.Dir,.int .i64 x.Cap,.bool x.Clock]:=by
 simp only [C_Pin,Dd,BW,AG,BG,Au,FQ]at h
 obtain⟨_,_,rfl,rfl,⟨_,_,rfl,rfl,⟨_,_,rfl,rfl,rfl⟩⟩⟩:=h;exact rfl
theorem KO{w:World}{S:Nat->Prop}{x:Bz}:C_Pin.rep w S x [.string x.Name,.int .i64 x.Dir,.int .i64 x.Cap,.bool x.Clock]:=by
 simp only [C_Pin,Dd,BW,AG,BG,Au,FQ]
 exact⟨_,_,rfl,rfl,⟨_,_,rfl,rfl,⟨_,_,rfl,rfl,rfl⟩⟩⟩
instance:DP C_Pin:=by unfold C_Pin;infer_instance
structure BF where
 Slews:List Int
 Loads:List Int
 Values:List Int
def C_Table:Cq BF:=Dd (fun x=>(x.Slews,x.Loads,x.Values)) (BW (FQ (AG .i64)) (BW (FQ (AG .i64)) (FQ (AG .i64))))
theorem Eg{w:World}{S:Nat->Prop}{x:BF}{vs:List Value}(h:C_Table.rep w S x vs):∃v1 v2 v3,vs=[v1,v2,v3]∧AD (AG .i64) w S x.Slews v1∧AD (AG .i64) w S x.Loads v2∧AD (AG .i64) w S x.Values v3:=by
 simp only [C_Table,Dd,BW,AG,BG,Au,FQ]at h
 obtain⟨_,_,rfl,⟨v1,rfl,h1⟩,⟨_,_,rfl,⟨v2,rfl,h2⟩,⟨v3,rfl,h3⟩⟩⟩:=h;exact⟨v1,v2,v3,rfl,h1,h2,h3⟩
theorem Og{w:World}{S:Nat->Prop}{x:BF}{v1 v2 v3:Value}(h1:AD (AG .i64) w S x.Slews v1)(h2:AD (AG .i64) w S x.Loads v2)(h3:AD (AG .i64) w S x.Values v3):C_Table.rep w S x [v1,v2,v3]:=by
 simp only [C_Table,Dd,BW,AG,BG,Au,FQ]
 exact⟨_,_,rfl,⟨_,rfl,h1⟩,⟨_,_,rfl,⟨_,rfl,h2⟩,⟨_,rfl,h3⟩⟩⟩
structure BS where
 Kind:Int
 From:Int
 To:Int
 Sense:Int
 Delay:List BF
 Slew:List BF
def C_Arc:Cq BS:=Dd (fun x=>(x.Kind,x.From,x.To,x.Sense,x.Delay,x.Slew)) (BW (AG .i64) (BW (AG .i64) (BW (AG .i64) (BW (AG .i64) (BW (FQ C_Table) (FQ C_Table))))))
theorem Bm{w:World}{S:Nat->Prop}{x:BS}{vs:List Value}(h:C_Arc.rep w S x vs):∃v1 v2,vs=[.int .i64 x.Kind,.int .i64 x.From,.int .i64 x.To,.int .i64 x.Sense,v1,v2]∧AD C_Table w S x.Delay v1∧AD C_Table w S x.Slew v2:=by
 simp only [C_Arc,Dd,BW,AG,BG,Au,FQ]at h
 obtain⟨_,_,rfl,rfl,⟨_,_,rfl,rfl,⟨_,_,rfl,rfl,⟨_,_,rfl,rfl,⟨_,_,rfl,⟨v1,rfl,h1⟩,⟨v2,rfl,h2⟩⟩⟩⟩⟩⟩:=h;exact⟨v1,v2,rfl,h1,h2⟩
theorem KD{w:World}{S:Nat->Prop}{x:BS}{v1 v2:Value}(h1:AD C_Table w S x.Delay v1)(h2:AD C_Table w S x.Slew v2):C_Arc.rep w S x [.int .i64 x.Kind,.int .i64 x.From,.int .i64 x.To,.int .i64 x.Sense,v1,v2]:=by
 simp only [C_Arc,Dd,BW,AG,BG,Au,FQ]
 exact⟨_,_,rfl,rfl,⟨_,_,rfl,rfl,⟨_,_,rfl,rfl,⟨_,_,rfl,rfl,⟨_,_,rfl,⟨_,rfl,h1⟩,⟨_,rfl,h2⟩⟩⟩⟩⟩⟩
structure Al where
 Name:ByteArray
 Kind:Int
 Pins:List Bz
 Arcs:List BS
 Truth:List Int
 Leak:Int
 Energy:Int
def C_Cell:Cq Al:=Dd (fun x=>(x.Name,x.Kind,x.Pins,x.Arcs,x.Truth,x.Leak,x.Energy)) (BW Au (BW (AG .i64) (BW (FQ C_Pin) (BW (FQ C_Arc) (BW (FQ (AG .i64)) (BW (AG .i64) (AG .i64)))))))
theorem CF{w:World}{S:Nat->Prop}{x:Al}{vs:List Value}(h:C_Cell.rep w S x vs):∃v1 v2 v3,vs=[.string x.Name,.int .i64 x.Kind,v1,v2,v3,.int .i64 x.Leak,.int .i64 x.Energy]∧AD C_Pin w S x.Pins v1∧AD C_Arc w S x.Arcs v2∧AD (AG .i64) w S x.Truth v3:=by
 simp only [C_Cell,Dd,BW,AG,BG,Au,FQ]at h
 obtain⟨_,_,rfl,rfl,⟨_,_,rfl,rfl,⟨_,_,rfl,⟨v1,rfl,h1⟩,⟨_,_,rfl,⟨v2,rfl,h2⟩,⟨_,_,rfl,⟨v3,rfl,h3⟩,⟨_,_,rfl,rfl,rfl⟩⟩⟩⟩⟩⟩:=h;exact⟨v1,v2,v3,rfl,h1,h2,h3⟩
theorem FR{w:World}{S:Nat->Prop}{x:Al}{v1 v2 v3:Value}(h1:AD C_Pin w S x.Pins v1)(h2:AD C_Arc w S x.Arcs v2)(h3:AD (AG .i64) w S x.Truth v3):C_Cell.rep w S x [.string x.Name,.int .i64 x.Kind,v1,v2,v3,.int .i64 x.Leak,.int .i64 x.Energy]:=by
 simp only [C_Cell,Dd,BW,AG,BG,Au,FQ]
 exact⟨_,_,rfl,rfl,⟨_,_,rfl,rfl,⟨_,_,rfl,⟨_,rfl,h1⟩,⟨_,_,rfl,⟨_,rfl,h2⟩,⟨_,_,rfl,⟨_,rfl,h3⟩,⟨_,_,rfl,rfl,rfl⟩⟩⟩⟩⟩⟩
structure Ax where
 Cells:List Al
structure Aq where
 Name:ByteArray
 Cell:Int
 Nets:List Int
def C_Instance:Cq Aq:=Dd (fun x=>(x.Name,x.Cell,x.Nets)) (BW Au (BW (AG .i64) (FQ (AG .i64))))
theorem BN{w:World}{S:Nat->Prop}{x:Aq}{vs:List Value}(h:C_Instance.rep w S x vs):∃v1,vs=[.string x.Name,.int .i64 x.Cell,v1]∧AD (AG .i64) w S x.Nets v1:=by
 simp only [C_Instance,Dd,BW,AG,BG,Au,FQ]at h
 obtain⟨_,_,rfl,rfl,⟨_,_,rfl,rfl,⟨v1,rfl,h1⟩⟩⟩:=h;exact⟨v1,rfl,h1⟩
theorem PA{w:World}{S:Nat->Prop}{x:Aq}{v1:Value}(h1:AD (AG .i64) w S x.Nets v1):C_Instance.rep w S x [.string x.Name,.int .i64 x.Cell,v1]:=by
 simp only [C_Instance,Dd,BW,AG,BG,Au,FQ]
 exact⟨_,_,rfl,rfl,⟨_,_,rfl,rfl,⟨_,rfl,h1⟩⟩⟩
def Gh(x y:Aq):Prop:=x.Name=y.Name∧True∧Fg (fun _ _=>True) x.Nets y.Nets
instance:QJ C_Instance Gh:=QJ.map (β:=Aq) (c:=(BW Au (BW (AG .i64) (FQ (AG .i64))))) (fun x=>(x.Name,x.Cell,x.Nets)) (fun p=>⟨p.1,p.2.1,p.2.2⟩) (fun _=>rfl)
structure CM where
 Name:ByteArray
 Dir:Int
 Net:Int
def C_Port:Cq CM:=Dd (fun x=>(x.Name,x.Dir,x.Net)) (BW Au (BW (AG .i64) (AG .i64)))
theorem DM{w:World}{S:Nat->Prop}{x:CM}{vs:List Value}(h:C_Port.rep w S x vs):vs=[.string x.Name,.int .i64 x.Dir,.int .i64 x.Net]:=by
 simp only [C_Port,Dd,BW,AG,BG,Au,FQ]at h
 obtain⟨_,_,rfl,rfl,⟨_,_,rfl,rfl,rfl⟩⟩:=h;exact rfl
theorem IG{w:World}{S:Nat->Prop}{x:CM}:C_Port.rep w S x [.string x.Name,.int .i64 x.Dir,.int .i64 x.Net]:=by
 simp only [C_Port,Dd,BW,AG,BG,Au,FQ]
 exact⟨_,_,rfl,rfl,⟨_,_,rfl,rfl,rfl⟩⟩
instance:DP C_Port:=by unfold C_Port;infer_instance
def QX(x y:CM):Prop:=x.Name=y.Name∧True∧True
instance:QJ C_Port QX:=QJ.map (β:=CM) (c:=(BW Au (BW (AG .i64) (AG .i64)))) (fun x=>(x.Name,x.Dir,x.Net)) (fun p=>⟨p.1,p.2.1,p.2.2⟩) (fun _=>rfl)
structure AX where
 Instances:List Aq
 Nets:List ByteArray
 Ports:List CM
structure BZ where
 Parent:List Int
 Res:List Int
 Cap:List Int
 Sink:List Int
def C_Wire:Cq BZ:=Dd (fun x=>(x.Parent,x.Res,x.Cap,x.Sink)) (BW (FQ (AG .i64)) (BW (FQ (AG .i64)) (BW (FQ (AG .i64)) (FQ (AG .i64)))))
theorem CE{w:World}{S:Nat->Prop}{x:BZ}{vs:List Value}(h:C_Wire.rep w S x vs):∃v1 v2 v3 v4,vs=[v1,v2,v3,v4]∧AD (AG .i64) w S x.Parent v1∧AD (AG .i64) w S x.Res v2∧AD (AG .i64) w S x.Cap v3∧AD (AG .i64) w S x.Sink v4:=by
 simp only [C_Wire,Dd,BW,AG,BG,Au,FQ]at h
 obtain⟨_,_,rfl,⟨v1,rfl,h1⟩,⟨_,_,rfl,⟨v2,rfl,h2⟩,⟨_,_,rfl,⟨v3,rfl,h3⟩,⟨v4,rfl,h4⟩⟩⟩⟩:=h;exact⟨v1,v2,v3,v4,rfl,h1,h2,h3,h4⟩
theorem NI{w:World}{S:Nat->Prop}{x:BZ}{v1 v2 v3 v4:Value}(h1:AD (AG .i64) w S x.Parent v1)(h2:AD (AG .i64) w S x.Res v2)(h3:AD (AG .i64) w S x.Cap v3)(h4:AD (AG .i64) w S x.Sink v4):C_Wire.rep w S x [v1,v2,v3,v4]:=by
 simp only [C_Wire,Dd,BW,AG,BG,Au,FQ]
 exact⟨_,_,rfl,⟨_,rfl,h1⟩,⟨_,_,rfl,⟨_,rfl,h2⟩,⟨_,_,rfl,⟨_,rfl,h3⟩,⟨_,rfl,h4⟩⟩⟩⟩
def Gw(x y:BZ):Prop:=Fg (fun _ _=>True) x.Parent y.Parent∧Fg (fun _ _=>True) x.Res y.Res∧Fg (fun _ _=>True) x.Cap y.Cap∧Fg (fun _ _=>True) x.Sink y.Sink
instance:QJ C_Wire Gw:=QJ.map (β:=BZ) (c:=(BW (FQ (AG .i64)) (BW (FQ (AG .i64)) (BW (FQ (AG .i64)) (FQ (AG .i64)))))) (fun x=>(x.Parent,x.Res,x.Cap,x.Sink)) (fun p=>⟨p.1,p.2.1,p.2.2.1,p.2.2.2⟩) (fun _=>rfl)
structure AF where
 Library:Ax
 Design:AX
 Wires:List BZ
structure Ar where
 Early:Int
 Late:Int
def C_Span:Cq Ar:=Dd (fun x=>(x.Early,x.Late)) (BW (AG .i64) (AG .i64))
theorem BR{w:World}{S:Nat->Prop}{x:Ar}{vs:List Value}(h:C_Span.rep w S x vs):vs=[.int .i64 x.Early,.int .i64 x.Late]:=by
 simp only [C_Span,Dd,BW,AG,BG,Au,FQ]at h
 obtain⟨_,_,rfl,rfl,rfl⟩:=h;exact rfl
theorem DT{w:World}{S:Nat->Prop}{x:Ar}:C_Span.rep w S x [.int .i64 x.Early,.int .i64 x.Late]:=by
 simp only [C_Span,Dd,BW,AG,BG,Au,FQ]
 exact⟨_,_,rfl,rfl,rfl⟩
instance:DP C_Span:=by unfold C_Span;infer_instance
structure Af where
 Reached:List Bool
 Arrival:List Ar
 Slew:List Ar
structure Ak where
 Setup:Int
 Hold:Int
 Uncertainty:Int
structure Ay where
 Instance:Int
 Arc:Int
 Transition:Int
 Slack:Int
def C_Check:Cq Ay:=Dd (fun x=>(x.Instance,x.Arc,x.Transition,x.Slack)) (BW (AG .i64) (BW (AG .i64) (BW (AG .i64) (AG .i64))))
theorem Gg{w:World}{S:Nat->Prop}{x:Ay}{vs:List Value}(h:C_Check.rep w S x vs):vs=[.int .i64 x.Instance,.int .i64 x.Arc,.int .i64 x.Transition,.int .i64 x.Slack]:=by
 simp only [C_Check,Dd,BW,AG,BG,Au,FQ]at h
 obtain⟨_,_,rfl,rfl,⟨_,_,rfl,rfl,⟨_,_,rfl,rfl,rfl⟩⟩⟩:=h;exact rfl
theorem Im{w:World}{S:Nat->Prop}{x:Ay}:C_Check.rep w S x [.int .i64 x.Instance,.int .i64 x.Arc,.int .i64 x.Transition,.int .i64 x.Slack]:=by
 simp only [C_Check,Dd,BW,AG,BG,Au,FQ]
 exact⟨_,_,rfl,rfl,⟨_,_,rfl,rfl,⟨_,_,rfl,rfl,rfl⟩⟩⟩
instance:DP C_Check:=by unfold C_Check;infer_instance
structure EN where
 b_:List Int
 i_:Int
 h_:Int
structure AA where
 code_:List Int
 at_:Int
 seed_:Int
structure BV where
 Name:ByteArray
 CellEarly:Int
 CellLate:Int
 WireEarly:Int
 WireLate:Int
structure BA where
 instance_:Int
 pin_:Int
 net_:Int
 drives_:Bool
def C_place:Cq BA:=Dd (fun x=>(x.instance_,x.pin_,x.net_,x.drives_)) (BW (AG .i64) (BW (AG .i64) (BW (AG .i64) BG)))
theorem FV{w:World}{S:Nat->Prop}{x:BA}{vs:List Value}(h:C_place.rep w S x vs):vs=[.int .i64 x.instance_,.int .i64 x.pin_,.int .i64 x.net_,.bool x.drives_]:=by
 simp only [C_place,Dd,BW,AG,BG,Au,FQ]at h
 obtain⟨_,_,rfl,rfl,⟨_,_,rfl,rfl,⟨_,_,rfl,rfl,rfl⟩⟩⟩:=h;exact rfl
theorem Oq{w:World}{S:Nat->Prop}{x:BA}:C_place.rep w S x [.int .i64 x.instance_,.int .i64 x.pin_,.int .i64 x.net_,.bool x.drives_]:=by
 simp only [C_place,Dd,BW,AG,BG,Au,FQ]
 exact⟨_,_,rfl,rfl,⟨_,_,rfl,rfl,⟨_,_,rfl,rfl,rfl⟩⟩⟩
instance:DP C_place:=by unfold C_place;infer_instance
structure AU where
 From:Int
 To:Int
 Kind:Int
 Index:Int
def C_Link:Cq AU:=Dd (fun x=>(x.From,x.To,x.Kind,x.Index)) (BW (AG .i64) (BW (AG .i64) (BW (AG .i64) (AG .i64))))
theorem Db{w:World}{S:Nat->Prop}{x:AU}{vs:List Value}(h:C_Link.rep w S x vs):vs=[.int .i64 x.From,.int .i64 x.To,.int .i64 x.Kind,.int .i64 x.Index]:=by
 simp only [C_Link,Dd,BW,AG,BG,Au,FQ]at h
 obtain⟨_,_,rfl,rfl,⟨_,_,rfl,rfl,⟨_,_,rfl,rfl,rfl⟩⟩⟩:=h;exact rfl
theorem ND{w:World}{S:Nat->Prop}{x:AU}:C_Link.rep w S x [.int .i64 x.From,.int .i64 x.To,.int .i64 x.Kind,.int .i64 x.Index]:=by
 simp only [C_Link,Dd,BW,AG,BG,Au,FQ]
 exact⟨_,_,rfl,rfl,⟨_,_,rfl,rfl,⟨_,_,rfl,rfl,rfl⟩⟩⟩
instance:DP C_Link:=by unfold C_Link;infer_instance
structure Bh where
 Block:AF
 places_:List BA
 links_:List AU
 loads_:List Int
 delays_:List Unit
 extras_:List Int
structure BJ where
 instance_:Int
 pin_:Int
 net_:Int
 drives_:Bool
def C_l05Place:Cq BJ:=Dd (fun x=>(x.instance_,x.pin_,x.net_,x.drives_)) (BW (AG .i64) (BW (AG .i64) (BW (AG .i64) BG)))
theorem Bw{w:World}{S:Nat->Prop}{x:BJ}{vs:List Value}(h:C_l05Place.rep w S x vs):vs=[.int .i64 x.instance_,.int .i64 x.pin_,.int .i64 x.net_,.bool x.drives_]:=by
 simp only [C_l05Place,Dd,BW,AG,BG,Au,FQ]at h
 obtain⟨_,_,rfl,rfl,⟨_,_,rfl,rfl,⟨_,_,rfl,rfl,rfl⟩⟩⟩:=h;exact rfl
theorem LK{w:World}{S:Nat->Prop}{x:BJ}:C_l05Place.rep w S x [.int .i64 x.instance_,.int .i64 x.pin_,.int .i64 x.net_,.bool x.drives_]:=by
 simp only [C_l05Place,Dd,BW,AG,BG,Au,FQ]
 exact⟨_,_,rfl,rfl,⟨_,_,rfl,rfl,⟨_,_,rfl,rfl,rfl⟩⟩⟩
instance:DP C_l05Place:=by unfold C_l05Place;infer_instance
structure At where
 Node:Int
 Arrival:Ar
 Slew:Ar
def C_Source:Cq At:=Dd (fun x=>(x.Node,x.Arrival,x.Slew)) (BW (AG .i64) (BW C_Span C_Span))
theorem CL{w:World}{S:Nat->Prop}{x:At}{vs:List Value}(h:C_Source.rep w S x vs):vs=[.int .i64 x.Node,.int .i64 x.Arrival.Early,.int .i64 x.Arrival.Late,.int .i64 x.Slew.Early,.int .i64 x.Slew.Late]:=by
 simp only [C_Source,Dd,BW,AG,BG,Au,FQ,C_Span,C_Span]at h
 obtain⟨_,_,rfl,rfl,⟨_,_,rfl,⟨_,_,rfl,rfl,rfl⟩,⟨_,_,rfl,rfl,rfl⟩⟩⟩:=h;exact rfl
theorem GK{w:World}{S:Nat->Prop}{x:At}:C_Source.rep w S x [.int .i64 x.Node,.int .i64 x.Arrival.Early,.int .i64 x.Arrival.Late,.int .i64 x.Slew.Early,.int .i64 x.Slew.Late]:=by
 simp only [C_Source,Dd,BW,AG,BG,Au,FQ,C_Span,C_Span]
 exact⟨_,_,rfl,rfl,⟨_,_,rfl,⟨_,_,rfl,rfl,rfl⟩,⟨_,_,rfl,rfl,rfl⟩⟩⟩
instance:DP C_Source:=by unfold C_Source;infer_instance
structure CK where
 index_:Int
 part_:Int
def C_weight:Cq CK:=Dd (fun x=>(x.index_,x.part_)) (BW (AG .i64) (AG .i64))
theorem LU{w:World}{S:Nat->Prop}{x:CK}{vs:List Value}(h:C_weight.rep w S x vs):vs=[.int .i64 x.index_,.int .i64 x.part_]:=by
 simp only [C_weight,Dd,BW,AG,BG,Au,FQ]at h
 obtain⟨_,_,rfl,rfl,rfl⟩:=h;exact rfl
theorem KV{w:World}{S:Nat->Prop}{x:CK}:C_weight.rep w S x [.int .i64 x.index_,.int .i64 x.part_]:=by
 simp only [C_weight,Dd,BW,AG,BG,Au,FQ]
 exact⟨_,_,rfl,rfl,rfl⟩
instance:DP C_weight:=by unfold C_weight;infer_instance
structure Ce where
 e0:Int
 e1:Int
def C_A2_Int:Cq Ce:=Dd (fun x=>(x.e0,x.e1)) (BW (AG .i64) (AG .i64))
theorem PF{w:World}{S:Nat->Prop}{x:Ce}{vs:List Value}(h:C_A2_Int.rep w S x vs):vs=[.int .i64 x.e0,.int .i64 x.e1]:=by
 simp only [C_A2_Int,Dd,BW,AG,BG,Au,FQ]at h
 obtain⟨_,_,rfl,rfl,rfl⟩:=h;exact rfl
theorem Cy{w:World}{S:Nat->Prop}{x:Ce}:C_A2_Int.rep w S x [.int .i64 x.e0,.int .i64 x.e1]:=by
 simp only [C_A2_Int,Dd,BW,AG,BG,Au,FQ]
 exact⟨_,_,rfl,rfl,rfl⟩
instance:DP C_A2_Int:=by unfold C_A2_Int;infer_instance
def eQ(k:IntKind)(x:Int):Prop:=k.min<=x∧x<=k.max
theorem eQ.i64{x:Int}(h:eQ .i64 x):-9223372036854775808<=x∧x<=9223372036854775807:=h
end Go.Eng
