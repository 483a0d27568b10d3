/- The walks: every function that FnGates reaches computes the plain function that is typed beside it; no condition. -/
import Derived.Test.YtejmafeocaidlaaDoorProg
import Derived.Test.YtejmafeocaidlaaDoorDat
import Derived.Test.YtejmafeocaidlaaDoorShelf
set_option linter.all false
set_option maxRecDepth 20000
set_option maxHeartbeats 40000000
namespace Go.Proofs.YtejmafeocaidlaaDoor
open Go Go.RowKit Go.Eng Go.Proofs.Tryd
open Go.IntKind (wrap)
variable {n H:Nat} {w:World}
abbrev MV:=@underlying2
abbrev SQ:=@underlying3
abbrev SU:=@underlying4
abbrev PP:=@underlying5
abbrev Lm:=@underlying9
abbrev GD:=@underlying22
abbrev Na:=@underlying26
abbrev Br:=@underlying27
abbrev CA:=@underlying28
abbrev Ab:=@underlying29
abbrev Ny:=@underlying42
abbrev Jl:=@underlying47
abbrev GF:=@underlying60
abbrev HM:=@underlying64
theorem Tryd.hm:Tryd.prog.follows .mixedOrders=true:=by kernel_rfl
theorem If:Bc prog 102=some true:=by kernel_rfl
theorem Ac:Bc prog 2=some false:=by kernel_rfl
theorem JN:Bc prog 22=some false:=by kernel_rfl
theorem Kg:Bc prog 26=some false:=by kernel_rfl
theorem By:Bc prog 27=some false:=by kernel_rfl
theorem CC:Bc prog 28=some false:=by kernel_rfl
theorem At:Bc prog 29=some false:=by kernel_rfl
theorem Jt:Bc prog 3=some false:=by kernel_rfl
theorem AU:Bc prog 31=some true:=by kernel_rfl
theorem Fk:Bc prog 4=some false:=by kernel_rfl
theorem Mx:Bc prog 42=some false:=by kernel_rfl
theorem Ms:Bc prog 44=some true:=by kernel_rfl
theorem MI:Bc prog 5=some false:=by kernel_rfl
theorem Iu:Bc prog 62=some true:=by kernel_rfl
theorem Ds:Bc prog 64=some false:=by kernel_rfl
theorem FA:Bc prog 66=some true:=by kernel_rfl
theorem Bp:Bc prog 69=some true:=by kernel_rfl
theorem Gh:Bc prog 9=some false:=by kernel_rfl
theorem Eg:Am prog 102=some 2:=by kernel_rfl
theorem As:Am prog 2=some 1:=by kernel_rfl
theorem NO:Am prog 26=some 1:=by kernel_rfl
theorem NG:Am prog 27=some 1:=by kernel_rfl
theorem Hz:Am prog 28=some 1:=by kernel_rfl
theorem Kz:Am prog 29=some 1:=by kernel_rfl
theorem Oo:Am prog 3=some 1:=by kernel_rfl
theorem AK:Am prog 31=some 7:=by kernel_rfl
theorem Ra:Am prog 4=some 1:=by kernel_rfl
theorem Pv:Am prog 42=some 1:=by kernel_rfl
theorem Ht:Am prog 44=some 1:=by kernel_rfl
theorem MH:Am prog 5=some 1:=by kernel_rfl
theorem Bq:Am prog 62=some 4:=by kernel_rfl
theorem Ba:Am prog 66=some 6:=by kernel_rfl
theorem BL:Am prog 69=some 3:=by kernel_rfl
theorem IV:Am prog 9=some 1:=by kernel_rfl
theorem GN:Aa prog 102 0=some 0:=by kernel_rfl
theorem Hn:Aa prog 102 1=some 1:=by kernel_rfl
theorem Ha:Aa prog 31 0=some 0:=by kernel_rfl
theorem EC:Aa prog 31 1=some 1:=by kernel_rfl
theorem BK:Aa prog 31 2=some 2:=by kernel_rfl
theorem BB:Aa prog 31 3=some 3:=by kernel_rfl
theorem BG:Aa prog 31 4=some 4:=by kernel_rfl
theorem Hd:Aa prog 31 5=some 5:=by kernel_rfl
theorem JK:Aa prog 31 6=some 6:=by kernel_rfl
theorem JA:Aa prog 39 0=some 0:=by kernel_rfl
theorem Fv:Aa prog 39 1=some 1:=by kernel_rfl
theorem FC:Aa prog 39 2=some 2:=by kernel_rfl
theorem JS:Aa prog 44 0=some 0:=by kernel_rfl
theorem JQ:Aa prog 58 0=some 0:=by kernel_rfl
theorem Fu:Aa prog 58 1=some 1:=by kernel_rfl
theorem Cy:Aa prog 58 2=some 2:=by kernel_rfl
theorem Ex:Aa prog 62 0=some 0:=by kernel_rfl
theorem Fm:Aa prog 62 1=some 1:=by kernel_rfl
theorem EG:Aa prog 62 2=some 2:=by kernel_rfl
theorem Bu:Aa prog 62 3=some 3:=by kernel_rfl
theorem CV:Aa prog 66 0=some 0:=by kernel_rfl
theorem Bo:Aa prog 66 1=some 1:=by kernel_rfl
theorem Bv:Aa prog 66 2=some 2:=by kernel_rfl
theorem DA:Aa prog 66 3=some 3:=by kernel_rfl
theorem EH:Aa prog 66 4=some 4:=by kernel_rfl
theorem Er:Aa prog 66 5=some 5:=by kernel_rfl
theorem Ez:Aa prog 69 0=some 0:=by kernel_rfl
theorem Da:Aa prog 69 1=some 1:=by kernel_rfl
theorem BT:Aa prog 69 2=some 2:=by kernel_rfl
theorem MD:HK prog 44 0=some (42,0):=by kernel_rfl
theorem JX:Ar prog 10=true:=by kernel_rfl
theorem QN:Ar prog 11=true:=by kernel_rfl
theorem NB:Ar prog 12=true:=by kernel_rfl
theorem Aq:Ar prog 13=true:=by kernel_rfl
theorem Gq:Ar prog 14=true:=by kernel_rfl
theorem Mz:Ar prog 15=true:=by kernel_rfl
theorem ND:Ar prog 16=true:=by kernel_rfl
theorem Iw:Ar prog 17=true:=by kernel_rfl
theorem PH:Ar prog 18=true:=by kernel_rfl
theorem Pe:Ar prog 19=true:=by kernel_rfl
theorem Pw:Ar prog 20=true:=by kernel_rfl
theorem Oc:Ar prog 21=true:=by kernel_rfl
theorem Mo:Ar prog 22=true:=by kernel_rfl
theorem JD:Ar prog 23=true:=by kernel_rfl
theorem JB:Ar prog 24=true:=by kernel_rfl
theorem KS:Ar prog 25=true:=by kernel_rfl
theorem PD:Ar prog 26=true:=by kernel_rfl
theorem Hy:Ar prog 27=true:=by kernel_rfl
theorem Ok:Ar prog 28=true:=by kernel_rfl
theorem NK:Ar prog 29=true:=by kernel_rfl
theorem Om:Ar prog 30=true:=by kernel_rfl
theorem PG:Ar prog 31=true:=by kernel_rfl
theorem Es:Ar prog 32=true:=by kernel_rfl
theorem QE:Ar prog 33=true:=by kernel_rfl
theorem Mj:Ar prog 34=true:=by kernel_rfl
theorem Ou:Ar prog 35=true:=by kernel_rfl
theorem Mg:Ar prog 36=true:=by kernel_rfl
theorem Dy:Ar prog 37=true:=by kernel_rfl
theorem Pi:Ar prog 38=true:=by kernel_rfl
theorem Pb:Ar prog 39=true:=by kernel_rfl
theorem Qq:Ar prog 4=true:=by kernel_rfl
theorem Mp:Ar prog 40=true:=by kernel_rfl
theorem NJ:Ar prog 41=true:=by kernel_rfl
theorem PJ:Ar prog 42=true:=by kernel_rfl
theorem Oh:Ar prog 43=true:=by kernel_rfl
theorem LP:Ar prog 44=true:=by kernel_rfl
theorem LB:Ar prog 45=true:=by kernel_rfl
theorem PM:Ar prog 46=true:=by kernel_rfl
theorem Pf:Ar prog 47=true:=by kernel_rfl
theorem OV:Ar prog 48=true:=by kernel_rfl
theorem Pr:Ar prog 49=true:=by kernel_rfl
theorem RG:Ar prog 5=true:=by kernel_rfl
theorem NC:Ar prog 50=true:=by kernel_rfl
theorem Oi:Ar prog 51=true:=by kernel_rfl
theorem Gz:Ar prog 52=true:=by kernel_rfl
theorem Hq:Ar prog 53=true:=by kernel_rfl
theorem PA:Ar prog 54=true:=by kernel_rfl
theorem NH:Ar prog 55=true:=by kernel_rfl
theorem RA:Ar prog 6=true:=by kernel_rfl
theorem Oj:Ar prog 64=true:=by kernel_rfl
theorem PR:Ar prog 65=true:=by kernel_rfl
theorem Ke:Ar prog 66=true:=by kernel_rfl
theorem OY:Ar prog 67=true:=by kernel_rfl
theorem NE:Ar prog 68=true:=by kernel_rfl
theorem Pa:Ar prog 69=true:=by kernel_rfl
theorem Rm:Ar prog 7=true:=by kernel_rfl
theorem Oy:Ar prog 70=true:=by kernel_rfl
theorem Px:Ar prog 76=true:=by kernel_rfl
theorem PU:Ar prog 77=true:=by kernel_rfl
theorem OX:Ar prog 78=true:=by kernel_rfl
theorem QG:Ar prog 79=true:=by kernel_rfl
theorem Rx:Ar prog 8=true:=by kernel_rfl
theorem PE:Ar prog 80=true:=by kernel_rfl
theorem Pc:Ar prog 81=true:=by kernel_rfl
theorem PF:Ar prog 82=true:=by kernel_rfl
theorem QH:Ar prog 83=true:=by kernel_rfl
theorem QB:Ar prog 87=true:=by kernel_rfl
theorem Mm:Ar prog 88=true:=by kernel_rfl
theorem NA:Ar prog 89=true:=by kernel_rfl
theorem Rg:Ar prog 9=true:=by kernel_rfl
theorem Pu:Ar prog 93=true:=by kernel_rfl
theorem CJ:CN prog 2=some ([.i 0],1,8):=by kernel_rfl
theorem PV:CN prog 31=some ([.string ByteArray.empty, .i 0, .slice none 0 0, .slice none 0 0, .slice none 0 0, .i 0, .i 0],7,112):=by kernel_rfl
theorem Gv:CN prog 62=some ([.string ByteArray.empty, .i 0, .i 0, .bool false],4,40):=by kernel_rfl
theorem FZ:CN prog 66=some ([.i 0, .i 0, .i 0, .i 0, .slice none 0 0, .slice none 0 0],6,80):=by kernel_rfl
theorem Oq:CN prog 69=some ([.slice none 0 0, .slice none 0 0, .slice none 0 0],3,72):=by kernel_rfl
theorem Ll:CN prog 9=some ([.string ByteArray.empty],1,16):=by kernel_rfl
theorem LX:CD prog 102=some [(0,1),(1,1)]:=by kernel_rfl
theorem NM:CD prog 31=some [(0,1),(1,1),(2,1),(3,1),(4,1),(5,1),(6,1)]:=by kernel_rfl
theorem Pn:CD prog 39=some [(0,1),(1,1),(2,1)]:=by kernel_rfl
theorem Ow:CD prog 44=some [(0,1)]:=by kernel_rfl
theorem QJ:CD prog 58=some [(0,1),(1,1),(2,1)]:=by kernel_rfl
theorem Hl:CD prog 62=some [(0,1),(1,1),(2,1),(3,1)]:=by kernel_rfl
theorem Mt:CD prog 66=some [(0,1),(1,1),(2,1),(3,1),(4,1),(5,1)]:=by kernel_rfl
theorem Oz:CD prog 69=some [(0,1),(1,1),(2,1)]:=by kernel_rfl
theorem GP:Cu prog 102=some [.i 0, .i 0]:=by kernel_rfl
theorem CG:Cu prog 31=some [.string ByteArray.empty, .i 0, .slice none 0 0, .slice none 0 0, .slice none 0 0, .i 0, .i 0]:=by kernel_rfl
theorem PS:Cu prog 39=some [.slice none 0 0, .i 0, .int .u64 0]:=by kernel_rfl
theorem JO:Cu prog 44=some [.slice none 0 0]:=by kernel_rfl
theorem Od:Cu prog 58=some [.slice none 0 0, .i 0, .i 0]:=by kernel_rfl
theorem FU:Cu prog 62=some [.string ByteArray.empty, .i 0, .i 0, .bool false]:=by kernel_rfl
theorem IC:Cu prog 66=some [.i 0, .i 0, .i 0, .i 0, .slice none 0 0, .slice none 0 0]:=by kernel_rfl
theorem IG:Cu prog 69=some [.slice none 0 0, .slice none 0 0, .slice none 0 0]:=by kernel_rfl
def Kh(n:Nat)(a0_s:ByteArray)(a1_cutset:ByteArray):Option ByteArray:=if a0_s.size<=9223372036854775807∧a1_cutset.size<4294967281∧(a1_cutset.data.toList.all fun b=>decide (b.toNat<128))=true then some ⟨(Lib.trimS a0_s.data.toList a1_cutset.data.toList).toArray⟩else none
theorem RY{n:Nat}{a0_s a1_cutset c:ByteArray}{w:World}(a:Kh n a0_s a1_cutset=some c):
 Calls prog 46 [.string a0_s, .string a1_cutset].toArray w (DY fun d e=>d= .string c∧AO w e):=by
 unfold Kh at a
 split at a
 ·rename_i b
  obtain rfl:=Option.some.inj a
  refine(strings_Trim_ascii a0_s a1_cutset w b.1 b.2.1 (fun g f hb=>of_decide_eq_true (List.all_eq_true.1 b.2.2 f (List.mem_of_getElem? hb)))).mono ?_
  rintro h w' ⟨rfl,hB⟩
  exact⟨_,z,z,hB⟩
 ·cases a
def Nv(n:Nat)(a0_s:ByteArray)(a1_c:Int):Option Int:=some (Lib.indexByte a0_s.data.toList a1_c.toNat.toUInt8)
theorem RP{n:Nat}{a0_s:ByteArray}{a1_c a:Int}{w:World}(b:Nv n a0_s a1_c=some a):
 Calls prog 47 [.string a0_s, .int .u8 a1_c].toArray w (DY fun c d=>c= .i a∧AO w d):=by
 obtain rfl:=Option.some.inj b
 refine(strings_IndexByte a0_s a1_c w).mono ?_
 rintro e w' ⟨rfl,rfl⟩
 exact⟨_,z,z,AO.refl _⟩
def Dg(a0:List ByteArray)(a1:ByteArray)(k0:Int->Option Int):Nat->Int->Option Int
 |0,_=>none
 |m+1,a=>cond (decide (a<(a0.length:Int))) ((AS a0 a).bind fun b=>cond (a1.toList==b.toList) (some a) (Dg a0 a1 k0 m (wrap .i64 (a+1)))) (k0 a)
def QZ(n:Nat)(a0:List ByteArray)(a1:ByteArray):Option Int:=Dg a0 a1 (fun a=>some (-1)) n 0
theorem Sl{f:List ByteArray}{g:ByteArray}{i:Int}{j:Value}(a:QZ n f g=some i)(m:H<=w.heap.size)(k:BF CT w H f j):
 Calls prog 76 [j,.string g].toArray w (BO (.i i) w):=by
 have l:=AO.refl w;unfold QZ at a;refine AF func76 z ntmps76 (Rc 9 (Yl z (FJ z GF (k.oj l)) (Ro 4 ?_)));refine WC.loopD (fun b h wl=>∃c:Int,Kn 19 [(0,j),(1,.string g),(7,.i ((f.length:Int))),(8,.i c)] h∧AO w wl∧Dg f g (fun c=>(some (-1))) b c=some i) n ?_ ?_
 ·intro h d;exact⟨0,d.sub z,AO.refl _,a⟩
 ·rintro b h o ⟨c,d,e,a⟩;refine Dj d ?_;rcases b with _|b;exact Dp a;rw [Dg.eq_2]at a;have p:=e.size;refine Rc 6 (Wf a e ?_);intro a;refine Rc 15 (Il a (k.oj e) GF IV Gh ?_);rintro q a _;refine Ro 3 (Wt a e ?_);intro a;refine Rc 8 ?_;intro h d;exact⟨b,nr,(wrap .i64 (c+1)),d.sub z,e,a⟩
def KW(n:Nat)(a0:List ByteArray)(a1:ByteArray):Option Bool:=(QZ n a0 a1).bind fun a=>some (decide (a>=0))
theorem Rp{b:List ByteArray}{c:ByteArray}{d:Bool}{e:Value}(a:KW n b c=some d)(j:H<=w.heap.size)(g:BF CT w H b e):
 Calls prog 64 [e,.string c].toArray w (BO (.bool d) w):=by
 have f:=AO.refl w;unfold KW at a;refine AF func64 z ntmps64 (Rc 9 (Cs a f Px (fun _ h=>(Sl h (by omega) (g.oj f):)) ?_));rintro k a l m ⟨i,o⟩;exact DF a i
def Ek(a0:List Int)(k0:Int->Int->Option Int):Nat->Int->Int->Option Int
 |0,_,_=>none
 |m+1,b,a=>cond (decide (a<(a0.length:Int))) ((AS a0 a).bind fun c=>Ek a0 k0 m (min b c) (wrap .i64 (a+1))) (k0 b a)
def Of(n:Nat)(a0:List Int):Option Int:=cond (decide ((a0.length:Int)<1)) none ((AS a0 0).bind fun c=>Ek a0 (fun a b=>some a) n c 1)
theorem TA{i:List Int}{j:Int}{k:Value}(a:Of n i=some j)(p:H<=w.heap.size)(g:BF (AI .i64) w H i k):
 Calls prog 80 [k].toArray w (BO (.i j) w):=by
 have l:=AO.refl w;unfold Of at a;refine AF func80 z ntmps80 (Rc 9 (Yl z (FJ z Ab (g.oj l)) (Ro 3 (Wc z a ?_ ?_))))
 ·intro a;cases a
 ·intro a;refine Rc 5 (Il a (g.oj l) Ab As Ac ?_);rintro m a _;refine Ro 10 (WC.loopD (fun c h wl=>∃b d:Int,Kn 25 [(0,k),(3,.i b),(4,.i d)] h∧AO w wl∧Ek i (fun b d=>(some b)) c b d=some j) n ?_ ?_)
  ·intro h e;exact⟨m,1,e.sub z,AO.refl _,a⟩
  ·rintro c h q ⟨b,d,e,f,a⟩;refine Dj e ?_;rcases c with _|c;exact Dp a;rw [Ek.eq_2]at a;have r:=f.size;refine Rc 5 (Yl z (FJ z Ab (g.oj f)) (Ro 3 (Wf a f ?_)));intro a;refine Rc 8 (Il a (g.oj f) Ab As Ac ?_);rintro o a _;refine Yl z (Hm z z z) (Ro 10 ?_);intro h e;exact⟨c,nr,(min b o),(wrap .i64 (d+1)),e.sub z,f,a⟩
end Go.Proofs.YtejmafeocaidlaaDoor
