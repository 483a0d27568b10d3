/- The data of the program, as plain Lean structures, and their cells; no condition. -/
import Derived.Test.YtbcnjcjcdknhhaaGreatDoorEng
set_option linter.all false
namespace Go.Eng
open Go Go.RowKit
structure BY where
 Name:ByteArray
 Dir:Int
 Cap:Int
 Clock:Bool
def C_Pin:CF BY:=Cs (fun x=>(x.Name,x.Dir,x.Cap,x.Clock)) (BQ BF (BQ (AI .i64) (BQ (AI .i64) cBool)))
theorem Bl{w:World}{S:Nat->Prop}{x:BY}{vs:List Value}(h:C_Pin.rep w S x vs):vs=[.string x.Name,.int .i64 x.Dir,.int .i64 x.Cap,.bool x.Clock]:=by
 simp only [C_Pin,Cs,BQ,AI,cBool,BF,EF]at h
 obtain⟨_,_,rfl,rfl,⟨_,_,rfl,rfl,⟨_,_,rfl,rfl,rfl⟩⟩⟩:=h;exact rfl
theorem HW{w:World}{S:Nat->Prop}{x:BY}:C_Pin.rep w S x [.string x.Name,.int .i64 x.Dir,.int .i64 x.Cap,.bool x.Clock]:=by
 simp only [C_Pin,Cs,BQ,AI,cBool,BF,EF]
 exact⟨_,_,rfl,rfl,⟨_,_,rfl,rfl,⟨_,_,rfl,rfl,rfl⟩⟩⟩
instance:CK C_Pin:=by unfold C_Pin;infer_instance
structure BI where
 Slews:List Int
 Loads:List Int
 Values:List Int
def C_Table:CF BI:=Cs (fun x=>(x.Slews,x.Loads,x.Values)) (BQ (EF (AI .i64)) (BQ (EF (AI .i64)) (EF (AI .i64))))
theorem JN{w:World}{S:Nat->Prop}{x:BI}{vs:List Value}(h:C_Table.rep w S x vs):∃v1 v2 v3,vs=[v1,v2,v3]∧AD (AI .i64) w S x.Slews v1∧AD (AI .i64) w S x.Loads v2∧AD (AI .i64) w S x.Values v3:=by
 simp only [C_Table,Cs,BQ,AI,cBool,BF,EF]at h
 obtain⟨_,_,rfl,⟨v1,rfl,h1⟩,⟨_,_,rfl,⟨v2,rfl,h2⟩,⟨v3,rfl,h3⟩⟩⟩:=h;exact⟨v1,v2,v3,rfl,h1,h2,h3⟩
theorem Kf{w:World}{S:Nat->Prop}{x:BI}{v1 v2 v3:Value}(h1:AD (AI .i64) w S x.Slews v1)(h2:AD (AI .i64) w S x.Loads v2)(h3:AD (AI .i64) w S x.Values v3):C_Table.rep w S x [v1,v2,v3]:=by
 simp only [C_Table,Cs,BQ,AI,cBool,BF,EF]
 exact⟨_,_,rfl,⟨_,rfl,h1⟩,⟨_,_,rfl,⟨_,rfl,h2⟩,⟨_,rfl,h3⟩⟩⟩
structure BJ where
 Kind:Int
 From:Int
 To:Int
 Sense:Int
 Delay:List BI
 Slew:List BI
def C_Arc:CF BJ:=Cs (fun x=>(x.Kind,x.From,x.To,x.Sense,x.Delay,x.Slew)) (BQ (AI .i64) (BQ (AI .i64) (BQ (AI .i64) (BQ (AI .i64) (BQ (EF C_Table) (EF C_Table))))))
theorem Bt{w:World}{S:Nat->Prop}{x:BJ}{vs:List Value}(h:C_Arc.rep w S x vs):∃v1 v2,vs=[.int .i64 x.Kind,.int .i64 x.From,.int .i64 x.To,.int .i64 x.Sense,v1,v2]∧AD C_Table w S x.Delay v1∧AD C_Table w S x.Slew v2:=by
 simp only [C_Arc,Cs,BQ,AI,cBool,BF,EF]at h
 obtain⟨_,_,rfl,rfl,⟨_,_,rfl,rfl,⟨_,_,rfl,rfl,⟨_,_,rfl,rfl,⟨_,_,rfl,⟨v1,rfl,h1⟩,⟨v2,rfl,h2⟩⟩⟩⟩⟩⟩:=h;exact⟨v1,v2,rfl,h1,h2⟩
theorem HU{w:World}{S:Nat->Prop}{x:BJ}{v1 v2:Value}(h1:AD C_Table w S x.Delay v1)(h2:AD C_Table w S x.Slew v2):C_Arc.rep w S x [.int .i64 x.Kind,.int .i64 x.From,.int .i64 x.To,.int .i64 x.Sense,v1,v2]:=by
 simp only [C_Arc,Cs,BQ,AI,cBool,BF,EF]
 exact⟨_,_,rfl,rfl,⟨_,_,rfl,rfl,⟨_,_,rfl,rfl,⟨_,_,rfl,rfl,⟨_,_,rfl,⟨_,rfl,h1⟩,⟨_,rfl,h2⟩⟩⟩⟩⟩⟩
structure Ak where
 Name:ByteArray
 Kind:Int
 Pins:List BY
 Arcs:List BJ
 Truth:List Int
 Leak:Int
 Energy:Int
def C_Cell:CF Ak:=Cs (fun x=>(x.Name,x.Kind,x.Pins,x.Arcs,x.Truth,x.Leak,x.Energy)) (BQ BF (BQ (AI .i64) (BQ (EF C_Pin) (BQ (EF C_Arc) (BQ (EF (AI .i64)) (BQ (AI .i64) (AI .i64)))))))
theorem Bp{w:World}{S:Nat->Prop}{x:Ak}{vs:List Value}(h:C_Cell.rep w S x vs):∃v1 v2 v3,vs=[.string x.Name,.int .i64 x.Kind,v1,v2,v3,.int .i64 x.Leak,.int .i64 x.Energy]∧AD C_Pin w S x.Pins v1∧AD C_Arc w S x.Arcs v2∧AD (AI .i64) w S x.Truth v3:=by
 simp only [C_Cell,Cs,BQ,AI,cBool,BF,EF]at h
 obtain⟨_,_,rfl,rfl,⟨_,_,rfl,rfl,⟨_,_,rfl,⟨v1,rfl,h1⟩,⟨_,_,rfl,⟨v2,rfl,h2⟩,⟨_,_,rfl,⟨v3,rfl,h3⟩,⟨_,_,rfl,rfl,rfl⟩⟩⟩⟩⟩⟩:=h;exact⟨v1,v2,v3,rfl,h1,h2,h3⟩
theorem Da{w:World}{S:Nat->Prop}{x:Ak}{v1 v2 v3:Value}(h1:AD C_Pin w S x.Pins v1)(h2:AD C_Arc w S x.Arcs v2)(h3:AD (AI .i64) w S x.Truth v3):C_Cell.rep w S x [.string x.Name,.int .i64 x.Kind,v1,v2,v3,.int .i64 x.Leak,.int .i64 x.Energy]:=by
 simp only [C_Cell,Cs,BQ,AI,cBool,BF,EF]
 exact⟨_,_,rfl,rfl,⟨_,_,rfl,rfl,⟨_,_,rfl,⟨_,rfl,h1⟩,⟨_,_,rfl,⟨_,rfl,h2⟩,⟨_,_,rfl,⟨_,rfl,h3⟩,⟨_,_,rfl,rfl,rfl⟩⟩⟩⟩⟩⟩
structure Aq where
 Cells:List Ak
structure Al where
 Name:ByteArray
 Cell:Int
 Nets:List Int
def C_Instance:CF Al:=Cs (fun x=>(x.Name,x.Cell,x.Nets)) (BQ BF (BQ (AI .i64) (EF (AI .i64))))
theorem BG{w:World}{S:Nat->Prop}{x:Al}{vs:List Value}(h:C_Instance.rep w S x vs):∃v1,vs=[.string x.Name,.int .i64 x.Cell,v1]∧AD (AI .i64) w S x.Nets v1:=by
 simp only [C_Instance,Cs,BQ,AI,cBool,BF,EF]at h
 obtain⟨_,_,rfl,rfl,⟨_,_,rfl,rfl,⟨v1,rfl,h1⟩⟩⟩:=h;exact⟨v1,rfl,h1⟩
theorem LD{w:World}{S:Nat->Prop}{x:Al}{v1:Value}(h1:AD (AI .i64) w S x.Nets v1):C_Instance.rep w S x [.string x.Name,.int .i64 x.Cell,v1]:=by
 simp only [C_Instance,Cs,BQ,AI,cBool,BF,EF]
 exact⟨_,_,rfl,rfl,⟨_,_,rfl,rfl,⟨_,rfl,h1⟩⟩⟩
def Ek(x y:Al):Prop:=x.Name=y.Name∧True∧De (fun _ _=>True) x.Nets y.Nets
instance:MI C_Instance Ek:=MI.map (β:=Al) (c:=(BQ BF (BQ (AI .i64) (EF (AI .i64))))) (fun x=>(x.Name,x.Cell,x.Nets)) (fun p=>⟨p.1,p.2.1,p.2.2⟩) (fun _=>rfl)
structure BL where
 Name:ByteArray
 Dir:Int
 Net:Int
def C_Port:CF BL:=Cs (fun x=>(x.Name,x.Dir,x.Net)) (BQ BF (BQ (AI .i64) (AI .i64)))
theorem CL{w:World}{S:Nat->Prop}{x:BL}{vs:List Value}(h:C_Port.rep w S x vs):vs=[.string x.Name,.int .i64 x.Dir,.int .i64 x.Net]:=by
 simp only [C_Port,Cs,BQ,AI,cBool,BF,EF]at h
 obtain⟨_,_,rfl,rfl,⟨_,_,rfl,rfl,rfl⟩⟩:=h;exact rfl
theorem GB{w:World}{S:Nat->Prop}{x:BL}:C_Port.rep w S x [.string x.Name,.int .i64 x.Dir,.int .i64 x.Net]:=by
 simp only [C_Port,Cs,BQ,AI,cBool,BF,EF]
 exact⟨_,_,rfl,rfl,⟨_,_,rfl,rfl,rfl⟩⟩
instance:CK C_Port:=by unfold C_Port;infer_instance
def Mp(x y:BL):Prop:=x.Name=y.Name∧True∧True
instance:MI C_Port Mp:=MI.map (β:=BL) (c:=(BQ BF (BQ (AI .i64) (AI .i64)))) (fun x=>(x.Name,x.Dir,x.Net)) (fun p=>⟨p.1,p.2.1,p.2.2⟩) (fun _=>rfl)
structure AO where
 Instances:List Al
 Nets:List ByteArray
 Ports:List BL
structure BH where
 Parent:List Int
 Res:List Int
 Cap:List Int
 Sink:List Int
def C_Wire:CF BH:=Cs (fun x=>(x.Parent,x.Res,x.Cap,x.Sink)) (BQ (EF (AI .i64)) (BQ (EF (AI .i64)) (BQ (EF (AI .i64)) (EF (AI .i64)))))
theorem Bu{w:World}{S:Nat->Prop}{x:BH}{vs:List Value}(h:C_Wire.rep w S x vs):∃v1 v2 v3 v4,vs=[v1,v2,v3,v4]∧AD (AI .i64) w S x.Parent v1∧AD (AI .i64) w S x.Res v2∧AD (AI .i64) w S x.Cap v3∧AD (AI .i64) w S x.Sink v4:=by
 simp only [C_Wire,Cs,BQ,AI,cBool,BF,EF]at h
 obtain⟨_,_,rfl,⟨v1,rfl,h1⟩,⟨_,_,rfl,⟨v2,rfl,h2⟩,⟨_,_,rfl,⟨v3,rfl,h3⟩,⟨v4,rfl,h4⟩⟩⟩⟩:=h;exact⟨v1,v2,v3,v4,rfl,h1,h2,h3,h4⟩
theorem Jj{w:World}{S:Nat->Prop}{x:BH}{v1 v2 v3 v4:Value}(h1:AD (AI .i64) w S x.Parent v1)(h2:AD (AI .i64) w S x.Res v2)(h3:AD (AI .i64) w S x.Cap v3)(h4:AD (AI .i64) w S x.Sink v4):C_Wire.rep w S x [v1,v2,v3,v4]:=by
 simp only [C_Wire,Cs,BQ,AI,cBool,BF,EF]
 exact⟨_,_,rfl,⟨_,rfl,h1⟩,⟨_,_,rfl,⟨_,rfl,h2⟩,⟨_,_,rfl,⟨_,rfl,h3⟩,⟨_,rfl,h4⟩⟩⟩⟩
def FJ(x y:BH):Prop:=De (fun _ _=>True) x.Parent y.Parent∧De (fun _ _=>True) x.Res y.Res∧De (fun _ _=>True) x.Cap y.Cap∧De (fun _ _=>True) x.Sink y.Sink
instance:MI C_Wire FJ:=MI.map (β:=BH) (c:=(BQ (EF (AI .i64)) (BQ (EF (AI .i64)) (BQ (EF (AI .i64)) (EF (AI .i64)))))) (fun x=>(x.Parent,x.Res,x.Cap,x.Sink)) (fun p=>⟨p.1,p.2.1,p.2.2.1,p.2.2.2⟩) (fun _=>rfl)
structure AP where
 Library:Aq
 Design:AO
 Wires:List BH
structure Av where
 instance_:Int
 pin_:Int
 net_:Int
 drives_:Bool
def C_l05Place:CF Av:=Cs (fun x=>(x.instance_,x.pin_,x.net_,x.drives_)) (BQ (AI .i64) (BQ (AI .i64) (BQ (AI .i64) cBool)))
theorem BX{w:World}{S:Nat->Prop}{x:Av}{vs:List Value}(h:C_l05Place.rep w S x vs):vs=[.int .i64 x.instance_,.int .i64 x.pin_,.int .i64 x.net_,.bool x.drives_]:=by
 simp only [C_l05Place,Cs,BQ,AI,cBool,BF,EF]at h
 obtain⟨_,_,rfl,rfl,⟨_,_,rfl,rfl,⟨_,_,rfl,rfl,rfl⟩⟩⟩:=h;exact rfl
theorem ID{w:World}{S:Nat->Prop}{x:Av}:C_l05Place.rep w S x [.int .i64 x.instance_,.int .i64 x.pin_,.int .i64 x.net_,.bool x.drives_]:=by
 simp only [C_l05Place,Cs,BQ,AI,cBool,BF,EF]
 exact⟨_,_,rfl,rfl,⟨_,_,rfl,rfl,⟨_,_,rfl,rfl,rfl⟩⟩⟩
instance:CK C_l05Place:=by unfold C_l05Place;infer_instance
structure Ar where
 instance_:Int
 pin_:Int
 net_:Int
 drives_:Bool
def C_place:CF Ar:=Cs (fun x=>(x.instance_,x.pin_,x.net_,x.drives_)) (BQ (AI .i64) (BQ (AI .i64) (BQ (AI .i64) cBool)))
theorem DF{w:World}{S:Nat->Prop}{x:Ar}{vs:List Value}(h:C_place.rep w S x vs):vs=[.int .i64 x.instance_,.int .i64 x.pin_,.int .i64 x.net_,.bool x.drives_]:=by
 simp only [C_place,Cs,BQ,AI,cBool,BF,EF]at h
 obtain⟨_,_,rfl,rfl,⟨_,_,rfl,rfl,⟨_,_,rfl,rfl,rfl⟩⟩⟩:=h;exact rfl
theorem KQ{w:World}{S:Nat->Prop}{x:Ar}:C_place.rep w S x [.int .i64 x.instance_,.int .i64 x.pin_,.int .i64 x.net_,.bool x.drives_]:=by
 simp only [C_place,Cs,BQ,AI,cBool,BF,EF]
 exact⟨_,_,rfl,rfl,⟨_,_,rfl,rfl,⟨_,_,rfl,rfl,rfl⟩⟩⟩
instance:CK C_place:=by unfold C_place;infer_instance
structure AR where
 From:Int
 To:Int
 Kind:Int
 Index:Int
def C_Link:CF AR:=Cs (fun x=>(x.From,x.To,x.Kind,x.Index)) (BQ (AI .i64) (BQ (AI .i64) (BQ (AI .i64) (AI .i64))))
theorem DY{w:World}{S:Nat->Prop}{x:AR}{vs:List Value}(h:C_Link.rep w S x vs):vs=[.int .i64 x.From,.int .i64 x.To,.int .i64 x.Kind,.int .i64 x.Index]:=by
 simp only [C_Link,Cs,BQ,AI,cBool,BF,EF]at h
 obtain⟨_,_,rfl,rfl,⟨_,_,rfl,rfl,⟨_,_,rfl,rfl,rfl⟩⟩⟩:=h;exact rfl
theorem Jc{w:World}{S:Nat->Prop}{x:AR}:C_Link.rep w S x [.int .i64 x.From,.int .i64 x.To,.int .i64 x.Kind,.int .i64 x.Index]:=by
 simp only [C_Link,Cs,BQ,AI,cBool,BF,EF]
 exact⟨_,_,rfl,rfl,⟨_,_,rfl,rfl,⟨_,_,rfl,rfl,rfl⟩⟩⟩
instance:CK C_Link:=by unfold C_Link;infer_instance
structure BP where
 Block:AP
 places_:List Ar
 links_:List AR
 loads_:List Int
 delays_:List Unit
 extras_:List Int
structure AA where
 code_:List Int
 at_:Int
 seed_:Int
structure CZ where
 view_:BP
 live_:List Bool
structure Bf where
 e0:Int
 e1:Int
def C_A2_Int:CF Bf:=Cs (fun x=>(x.e0,x.e1)) (BQ (AI .i64) (AI .i64))
theorem LI{w:World}{S:Nat->Prop}{x:Bf}{vs:List Value}(h:C_A2_Int.rep w S x vs):vs=[.int .i64 x.e0,.int .i64 x.e1]:=by
 simp only [C_A2_Int,Cs,BQ,AI,cBool,BF,EF]at h
 obtain⟨_,_,rfl,rfl,rfl⟩:=h;exact rfl
theorem CA{w:World}{S:Nat->Prop}{x:Bf}:C_A2_Int.rep w S x [.int .i64 x.e0,.int .i64 x.e1]:=by
 simp only [C_A2_Int,Cs,BQ,AI,cBool,BF,EF]
 exact⟨_,_,rfl,rfl,rfl⟩
instance:CK C_A2_Int:=by unfold C_A2_Int;infer_instance
structure FI where
 Early:Int
 Late:Int
def VE(k:IntKind)(x:Int):Prop:=k.min<=x∧x<=k.max
theorem VE.i64{x:Int}(h:VE .i64 x):-9223372036854775808<=x∧x<=9223372036854775807:=h
end Go.Eng
