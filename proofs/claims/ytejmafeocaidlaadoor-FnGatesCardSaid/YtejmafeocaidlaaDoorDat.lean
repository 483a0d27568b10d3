/- The data of the program, as plain Lean structures, and their cells; no condition. -/
import Derived.Test.YtejmafeocaidlaaDoorEng
set_option linter.all false
namespace Go.Eng
open Go Go.RowKit
structure Ad where
 Name:ByteArray
 Dir:Int
 Cap:Int
 Clock:Bool
def C_Pin:Ax Ad:=DC (fun x=>(x.Name,x.Dir,x.Cap,x.Clock)) (BP CT (BP (AI .i64) (BP (AI .i64) DL)))
theorem Az{w:World}{S:Nat->Prop}{x:Ad}{vs:List Value}(h:C_Pin.rep w S x vs):vs=[.string x.Name,.int .i64 x.Dir,.int .i64 x.Cap,.bool x.Clock]:=by
 simp only [C_Pin,DC,BP,AI,DL,CT,Fp]at h
 obtain⟨_,_,rfl,rfl,⟨_,_,rfl,rfl,⟨_,_,rfl,rfl,rfl⟩⟩⟩:=h;exact rfl
theorem CB{w:World}{S:Nat->Prop}{x:Ad}:C_Pin.rep w S x [.string x.Name,.int .i64 x.Dir,.int .i64 x.Cap,.bool x.Clock]:=by
 simp only [C_Pin,DC,BP,AI,DL,CT,Fp]
 exact⟨_,_,rfl,rfl,⟨_,_,rfl,rfl,⟨_,_,rfl,rfl,rfl⟩⟩⟩
instance:BU C_Pin:=by unfold C_Pin;infer_instance
structure AQ where
 Slews:List Int
 Loads:List Int
 Values:List Int
def C_Table:Ax AQ:=DC (fun x=>(x.Slews,x.Loads,x.Values)) (BP (Fp (AI .i64)) (BP (Fp (AI .i64)) (Fp (AI .i64))))
theorem DZ{w:World}{S:Nat->Prop}{x:AQ}{vs:List Value}(h:C_Table.rep w S x vs):∃v1 v2 v3,vs=[v1,v2,v3]∧AD (AI .i64) w S x.Slews v1∧AD (AI .i64) w S x.Loads v2∧AD (AI .i64) w S x.Values v3:=by
 simp only [C_Table,DC,BP,AI,DL,CT,Fp]at h
 obtain⟨_,_,rfl,⟨v1,rfl,h1⟩,⟨_,_,rfl,⟨v2,rfl,h2⟩,⟨v3,rfl,h3⟩⟩⟩:=h;exact⟨v1,v2,v3,rfl,h1,h2,h3⟩
theorem Fx{w:World}{S:Nat->Prop}{x:AQ}{v1 v2 v3:Value}(h1:AD (AI .i64) w S x.Slews v1)(h2:AD (AI .i64) w S x.Loads v2)(h3:AD (AI .i64) w S x.Values v3):C_Table.rep w S x [v1,v2,v3]:=by
 simp only [C_Table,DC,BP,AI,DL,CT,Fp]
 exact⟨_,_,rfl,⟨_,rfl,h1⟩,⟨_,_,rfl,⟨_,rfl,h2⟩,⟨_,rfl,h3⟩⟩⟩
structure Ah where
 Kind:Int
 From:Int
 To:Int
 Sense:Int
 Delay:List AQ
 Slew:List AQ
def C_Arc:Ax Ah:=DC (fun x=>(x.Kind,x.From,x.To,x.Sense,x.Delay,x.Slew)) (BP (AI .i64) (BP (AI .i64) (BP (AI .i64) (BP (AI .i64) (BP (Fp C_Table) (Fp C_Table))))))
theorem BR{w:World}{S:Nat->Prop}{x:Ah}{vs:List Value}(h:C_Arc.rep w S x vs):∃v1 v2,vs=[.int .i64 x.Kind,.int .i64 x.From,.int .i64 x.To,.int .i64 x.Sense,v1,v2]∧AD C_Table w S x.Delay v1∧AD C_Table w S x.Slew v2:=by
 simp only [C_Arc,DC,BP,AI,DL,CT,Fp]at h
 obtain⟨_,_,rfl,rfl,⟨_,_,rfl,rfl,⟨_,_,rfl,rfl,⟨_,_,rfl,rfl,⟨_,_,rfl,⟨v1,rfl,h1⟩,⟨v2,rfl,h2⟩⟩⟩⟩⟩⟩:=h;exact⟨v1,v2,rfl,h1,h2⟩
theorem Ca{w:World}{S:Nat->Prop}{x:Ah}{v1 v2:Value}(h1:AD C_Table w S x.Delay v1)(h2:AD C_Table w S x.Slew v2):C_Arc.rep w S x [.int .i64 x.Kind,.int .i64 x.From,.int .i64 x.To,.int .i64 x.Sense,v1,v2]:=by
 simp only [C_Arc,DC,BP,AI,DL,CT,Fp]
 exact⟨_,_,rfl,rfl,⟨_,_,rfl,rfl,⟨_,_,rfl,rfl,⟨_,_,rfl,rfl,⟨_,_,rfl,⟨_,rfl,h1⟩,⟨_,rfl,h2⟩⟩⟩⟩⟩⟩
structure AE where
 Name:ByteArray
 Kind:Int
 Pins:List Ad
 Arcs:List Ah
 Truth:List Int
 Leak:Int
 Energy:Int
def C_Cell:Ax AE:=DC (fun x=>(x.Name,x.Kind,x.Pins,x.Arcs,x.Truth,x.Leak,x.Energy)) (BP CT (BP (AI .i64) (BP (Fp C_Pin) (BP (Fp C_Arc) (BP (Fp (AI .i64)) (BP (AI .i64) (AI .i64)))))))
theorem Hw{w:World}{S:Nat->Prop}{x:AE}{vs:List Value}(h:C_Cell.rep w S x vs):∃v1 v2 v3,vs=[.string x.Name,.int .i64 x.Kind,v1,v2,v3,.int .i64 x.Leak,.int .i64 x.Energy]∧AD C_Pin w S x.Pins v1∧AD C_Arc w S x.Arcs v2∧AD (AI .i64) w S x.Truth v3:=by
 simp only [C_Cell,DC,BP,AI,DL,CT,Fp]at h
 obtain⟨_,_,rfl,rfl,⟨_,_,rfl,rfl,⟨_,_,rfl,⟨v1,rfl,h1⟩,⟨_,_,rfl,⟨v2,rfl,h2⟩,⟨_,_,rfl,⟨v3,rfl,h3⟩,⟨_,_,rfl,rfl,rfl⟩⟩⟩⟩⟩⟩:=h;exact⟨v1,v2,v3,rfl,h1,h2,h3⟩
theorem Jd{w:World}{S:Nat->Prop}{x:AE}{v1 v2 v3:Value}(h1:AD C_Pin w S x.Pins v1)(h2:AD C_Arc w S x.Arcs v2)(h3:AD (AI .i64) w S x.Truth v3):C_Cell.rep w S x [.string x.Name,.int .i64 x.Kind,v1,v2,v3,.int .i64 x.Leak,.int .i64 x.Energy]:=by
 simp only [C_Cell,DC,BP,AI,DL,CT,Fp]
 exact⟨_,_,rfl,rfl,⟨_,_,rfl,rfl,⟨_,_,rfl,⟨_,rfl,h1⟩,⟨_,_,rfl,⟨_,rfl,h2⟩,⟨_,_,rfl,⟨_,rfl,h3⟩,⟨_,_,rfl,rfl,rfl⟩⟩⟩⟩⟩⟩
structure Bh where
 b_:List Int
 i_:Int
 h_:Int
structure EE where
 Cells:List AE
structure AA where
 code_:List Int
 at_:Int
 seed_:Int
structure DE where
 Early:Int
 Late:Int
def C_CellO:Ax AE:=DC (fun x=>(x.Name,x.Kind,(x.Pins,x.Arcs,x.Truth),x.Leak,x.Energy)) (BP CT (BP (AI .i64) (BP (KB C_Pin 62 C_Arc 66 (AI .i64) 2) (BP (AI .i64) (AI .i64)))))
theorem Bn{w:World}{S:Nat->Prop}{x:AE}{u v t:Value}(h:(KB C_Pin 62 C_Arc 66 (AI .i64) 2).rep w S (x.Pins,x.Arcs,x.Truth) [u,v,t]):C_CellO.rep w S x [.string x.Name,.int .i64 x.Kind,u,v,t,.int .i64 x.Leak,.int .i64 x.Energy]:=
 ⟨[.string x.Name],_,rfl,rfl,[.int .i64 x.Kind],_,rfl,rfl,[u,v,t],_,rfl,h,[.int .i64 x.Leak],_,rfl,rfl,rfl⟩
theorem FW{w:World}{S:Nat->Prop}{x:AE}{vs:List Value}(h:C_CellO.rep w S x vs):∃us,vs=[.string x.Name,.int .i64 x.Kind]++us++[.int .i64 x.Leak,.int .i64 x.Energy]∧(KB C_Pin 62 C_Arc 66 (AI .i64) 2).rep w S (x.Pins,x.Arcs,x.Truth) us:=by
 obtain⟨a,b,rfl,h1,c,d,rfl,h2,us,f,rfl,h3,g,i,rfl,h4,h5⟩:=h
 have h1:a=[.string x.Name]:=h1
 have h2:c=[.int .i64 x.Kind]:=h2
 have h4:g=[.int .i64 x.Leak]:=h4
 have h5:i=[.int .i64 x.Energy]:=h5
 subst h1 h2 h4 h5
 exact⟨us,by simp,h3⟩
theorem HS{w:World}{S:Nat->Prop}{x:AE}{vs:List Value}{lo hi:Nat}(h:C_CellO.rep w S x vs)(hS:∀k,S k->lo<=k∧k<hi)(hl:lo<=hi):∃u v t la lb,vs=[.string x.Name,.int .i64 x.Kind,u,v,t,.int .i64 x.Leak,.int .i64 x.Energy]∧AC C_Pin w lo (Iv 0 0) 62 x.Pins u∧AC C_Arc w la (SX la lb v) 66 x.Arcs v∧AC (AI .i64) w lo (Iv 0 0) 2 x.Truth t∧Bd u lo hi∧Bd v la lb∧Bd t lo hi∧(lo<=la∧la<=lb∧lb<=hi)∧Ns u la lb∧Ns t la lb∧
 (∀g q,v.ownBlock=some g->u.ownBlock=some q->g≠q)∧(∀g q,t.ownBlock=some g->u.ownBlock=some q->g≠q)∧(∀g q,t.ownBlock=some g->v.ownBlock=some q->g≠q):=by
 obtain⟨us,rfl,h2⟩:=FW h
 obtain⟨u,v,t,la,lb,rfl,h3⟩:=Jj h2 hS hl
 exact⟨u,v,t,la,lb,rfl,h3⟩
theorem HT{w:World}{S:Nat->Prop}{x:AE}{vs:List Value}(h:C_CellO.rep w S x vs):C_Cell.rep w S x vs:=by
 obtain⟨us,rfl,h2⟩:=FW h
 obtain⟨u,v,t,rfl,h3,h4,h5⟩:=Jf h2
 exact Jd h3 h4 h5
instance:LN C_Pin:=inferInstanceAs (LN (DC _ _))
def PQ(t:AQ):Prop:=t.Slews.length<=1048576∧t.Loads.length<=1048576∧t.Values.length<=1048576
def Rr(a:Ah):Prop:=(a.Delay.length<=1048576∧∀t∈a.Delay,PQ t)∧(a.Slew.length<=1048576∧∀t∈a.Slew,PQ t)
instance:Js C_Table PQ:=Js.map (β:=AQ) (fun x=>(x.Slews,x.Loads,x.Values)) (fun p=>⟨p.1,p.2.1,p.2.2⟩) (fun _=>rfl) (fun y=>⟨fun h=>⟨⟨h.1,fun _ _=>trivial⟩,⟨h.2.1,fun _ _=>trivial⟩,⟨h.2.2,fun _ _=>trivial⟩⟩,fun h=>⟨h.1.1,h.2.1.1,h.2.2.1⟩⟩)
instance:GW C_Arc Rr:=GW.map (β:=Ah) (fun x=>(x.Kind,x.From,x.To,x.Sense,x.Delay,x.Slew)) (fun p=>⟨p.1,p.2.1,p.2.2.1,p.2.2.2.1,p.2.2.2.2.1,p.2.2.2.2.2⟩) (fun _=>rfl) (fun y=>⟨fun h=>⟨trivial,trivial,trivial,trivial,h.1,h.2⟩,fun h=>h.2.2.2.2⟩)
def OO(k:IntKind)(x:Int):Prop:=k.min<=x∧x<=k.max
theorem OO.i64{x:Int}(h:OO .i64 x):-9223372036854775808<=x∧x<=9223372036854775807:=h
end Go.Eng
