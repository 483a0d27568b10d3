/- The walks: every function that FnClockPins reaches computes the plain function that is typed beside it; no condition. -/
import Derived.Test.YtbcnjcjcdknhhaaGreatDoorProg
import Derived.Test.YtbcnjcjcdknhhaaGreatDoorDat
import Derived.Test.YtbcnjcjcdknhhaaGreatDoorShelf
set_option linter.all false
set_option maxRecDepth 20000
set_option maxHeartbeats 40000000
namespace Go.Proofs.YtbcnjcjcdknhhaaGreatDoor
open Go Go.RowKit Go.Eng Go.Proofs.Tryz
open Go.IntKind (wrap)
variable {n H:Nat} {w:World}
theorem Tryz.hm:Tryz.prog.follows .mixedOrders=true:=by kernel_rfl
theorem Nk:Cd prog 110=some true:=by kernel_rfl
theorem Fq:Cd prog 134=some true:=by kernel_rfl
theorem UW:Cd prog 163=some true:=by kernel_rfl
theorem JW:Cd prog 193=some true:=by kernel_rfl
theorem Nd:Cd prog 199=some true:=by kernel_rfl
theorem Aa:Cd prog 2=some false:=by kernel_rfl
theorem TM:Cd prog 22=some false:=by kernel_rfl
theorem Ds:Cd prog 24=some false:=by kernel_rfl
theorem Hg:Cd prog 26=some true:=by kernel_rfl
theorem DR:Cd prog 27=some false:=by kernel_rfl
theorem GC:Cd prog 28=some false:=by kernel_rfl
theorem ES:Cd prog 29=some false:=by kernel_rfl
theorem PS:Cd prog 3=some false:=by kernel_rfl
theorem CP:Cd prog 31=some true:=by kernel_rfl
theorem DP:Cd prog 32=some false:=by kernel_rfl
theorem Bb:Cd prog 34=some true:=by kernel_rfl
theorem Ax:Cd prog 35=some false:=by kernel_rfl
theorem DE:Cd prog 4=some false:=by kernel_rfl
theorem DD:Cd prog 49=some false:=by kernel_rfl
theorem Wz:Cd prog 5=some false:=by kernel_rfl
theorem EY:Cd prog 50=some false:=by kernel_rfl
theorem CG:Cd prog 52=some true:=by kernel_rfl
theorem JS:Cd prog 54=some true:=by kernel_rfl
theorem OB:Cd prog 63=some true:=by kernel_rfl
theorem OD:Cd prog 64=some false:=by kernel_rfl
theorem Mr:Cd prog 68=some false:=by kernel_rfl
theorem Mw:Cd prog 72=some true:=by kernel_rfl
theorem Mt:Cd prog 73=some false:=by kernel_rfl
theorem Ld:Cd prog 74=some false:=by kernel_rfl
theorem WZ:Cd prog 75=some false:=by kernel_rfl
theorem LX:Cd prog 84=some true:=by kernel_rfl
theorem Du:Cd prog 85=some false:=by kernel_rfl
theorem FC:Cd prog 87=some true:=by kernel_rfl
theorem GH:Cd prog 9=some false:=by kernel_rfl
theorem Oe:Cd prog 93=some true:=by kernel_rfl
theorem DC:BM prog 110=some 3:=by kernel_rfl
theorem Bn:BM prog 134=some 4:=by kernel_rfl
theorem Np:BM prog 163=some 2:=by kernel_rfl
theorem Fl:BM prog 193=some 3:=by kernel_rfl
theorem IW:BM prog 199=some 2:=by kernel_rfl
theorem BA:BM prog 2=some 1:=by kernel_rfl
theorem Xa:BM prog 24=some 1:=by kernel_rfl
theorem FM:BM prog 26=some 1:=by kernel_rfl
theorem Wf:BM prog 29=some 1:=by kernel_rfl
theorem My:BM prog 3=some 1:=by kernel_rfl
theorem Bz:BM prog 31=some 3:=by kernel_rfl
theorem VW:BM prog 32=some 1:=by kernel_rfl
theorem BO:BM prog 34=some 5:=by kernel_rfl
theorem EZ:BM prog 35=some 1:=by kernel_rfl
theorem Db:BM prog 4=some 1:=by kernel_rfl
theorem TA:BM prog 49=some 1:=by kernel_rfl
theorem Wv:BM prog 5=some 1:=by kernel_rfl
theorem RJ:BM prog 50=some 1:=by kernel_rfl
theorem BS:BM prog 52=some 7:=by kernel_rfl
theorem CN:BM prog 54=some 3:=by kernel_rfl
theorem Df:BM prog 63=some 4:=by kernel_rfl
theorem FY:BM prog 72=some 4:=by kernel_rfl
theorem TY:BM prog 74=some 1:=by kernel_rfl
theorem XV:BM prog 75=some 1:=by kernel_rfl
theorem FX:BM prog 84=some 4:=by kernel_rfl
theorem Bw:BM prog 87=some 6:=by kernel_rfl
theorem NR:BM prog 9=some 1:=by kernel_rfl
theorem Cv:BM prog 93=some 4:=by kernel_rfl
theorem Mx:Aj prog 106 0=some 0:=by kernel_rfl
theorem JO:Aj prog 106 1=some 1:=by kernel_rfl
theorem ER:Aj prog 106 2=some 2:=by kernel_rfl
theorem Mg:Aj prog 110 0=some 0:=by kernel_rfl
theorem EP:Aj prog 110 1=some 1:=by kernel_rfl
theorem Fv:Aj prog 110 2=some 2:=by kernel_rfl
theorem JD:Aj prog 117 0=some 0:=by kernel_rfl
theorem Ha:Aj prog 117 1=some 1:=by kernel_rfl
theorem Ch:Aj prog 134 0=some 0:=by kernel_rfl
theorem Dq:Aj prog 134 1=some 1:=by kernel_rfl
theorem EN:Aj prog 134 2=some 2:=by kernel_rfl
theorem Cf:Aj prog 134 3=some 3:=by kernel_rfl
theorem JA:Aj prog 193 0=some 0:=by kernel_rfl
theorem JJ:Aj prog 193 1=some 1:=by kernel_rfl
theorem DA:Aj prog 193 2=some 2:=by kernel_rfl
theorem Kl:Aj prog 199 0=some 0:=by kernel_rfl
theorem MY:Aj prog 199 1=some 1:=by kernel_rfl
theorem CQ:Aj prog 26 0=some 0:=by kernel_rfl
theorem CH:Aj prog 31 0=some 0:=by kernel_rfl
theorem DH:Aj prog 31 1=some 1:=by kernel_rfl
theorem CX:Aj prog 31 2=some 2:=by kernel_rfl
theorem EK:Aj prog 34 0=some 0:=by kernel_rfl
theorem Bs:Aj prog 34 1=some 1:=by kernel_rfl
theorem CD:Aj prog 34 2=some 4:=by kernel_rfl
theorem Iu:Aj prog 52 0=some 0:=by kernel_rfl
theorem OY:Aj prog 52 1=some 1:=by kernel_rfl
theorem Br:Aj prog 52 2=some 2:=by kernel_rfl
theorem CT:Aj prog 52 3=some 3:=by kernel_rfl
theorem Cx:Aj prog 52 4=some 4:=by kernel_rfl
theorem OC:Aj prog 52 5=some 5:=by kernel_rfl
theorem Oh:Aj prog 52 6=some 6:=by kernel_rfl
theorem OV:Aj prog 54 0=some 0:=by kernel_rfl
theorem Cu:Aj prog 54 1=some 1:=by kernel_rfl
theorem By:Aj prog 54 2=some 2:=by kernel_rfl
theorem FU:Aj prog 63 0=some 0:=by kernel_rfl
theorem MA:Aj prog 63 1=some 1:=by kernel_rfl
theorem Lw:Aj prog 63 2=some 2:=by kernel_rfl
theorem Oj:Aj prog 63 3=some 3:=by kernel_rfl
theorem JB:Aj prog 72 0=some 0:=by kernel_rfl
theorem Ob:Aj prog 72 1=some 1:=by kernel_rfl
theorem JE:Aj prog 72 2=some 2:=by kernel_rfl
theorem Lm:Aj prog 72 3=some 3:=by kernel_rfl
theorem KG:Aj prog 77 0=some 0:=by kernel_rfl
theorem JL:Aj prog 77 1=some 5:=by kernel_rfl
theorem FO:Aj prog 77 2=some 6:=by kernel_rfl
theorem Nu:Aj prog 77 3=some 7:=by kernel_rfl
theorem OF:Aj prog 77 4=some 8:=by kernel_rfl
theorem Ny:Aj prog 84 0=some 0:=by kernel_rfl
theorem KF:Aj prog 84 1=some 1:=by kernel_rfl
theorem Og:Aj prog 84 2=some 2:=by kernel_rfl
theorem OS:Aj prog 84 3=some 3:=by kernel_rfl
theorem Ci:Aj prog 87 0=some 0:=by kernel_rfl
theorem Co:Aj prog 87 1=some 1:=by kernel_rfl
theorem CI:Aj prog 87 2=some 2:=by kernel_rfl
theorem Cj:Aj prog 87 3=some 3:=by kernel_rfl
theorem Ei:Aj prog 87 4=some 4:=by kernel_rfl
theorem Ee:Aj prog 87 5=some 5:=by kernel_rfl
theorem Jz:Aj prog 93 0=some 0:=by kernel_rfl
theorem KJ:Aj prog 93 1=some 1:=by kernel_rfl
theorem Ht:Aj prog 93 2=some 2:=by kernel_rfl
theorem Cm:Aj prog 93 3=some 3:=by kernel_rfl
theorem SE:Lz prog 87 0=some (2,0):=by kernel_rfl
theorem VO:Az prog 10=true:=by kernel_rfl
theorem Ts:Az prog 100=true:=by kernel_rfl
theorem PW:Az prog 101=true:=by kernel_rfl
theorem UK:Az prog 102=true:=by kernel_rfl
theorem Jh:Az prog 103=true:=by kernel_rfl
theorem KT:Az prog 104=true:=by kernel_rfl
theorem NQ:Az prog 105=true:=by kernel_rfl
theorem KR:Az prog 106=true:=by kernel_rfl
theorem Tf:Az prog 107=true:=by kernel_rfl
theorem Uw:Az prog 108=true:=by kernel_rfl
theorem Ue:Az prog 109=true:=by kernel_rfl
theorem Nz:Az prog 11=true:=by kernel_rfl
theorem Uj:Az prog 110=true:=by kernel_rfl
theorem Pb:Az prog 111=true:=by kernel_rfl
theorem UL:Az prog 112=true:=by kernel_rfl
theorem Tg:Az prog 113=true:=by kernel_rfl
theorem Ud:Az prog 114=true:=by kernel_rfl
theorem Us:Az prog 115=true:=by kernel_rfl
theorem Uv:Az prog 116=true:=by kernel_rfl
theorem Ty:Az prog 117=true:=by kernel_rfl
theorem Ti:Az prog 118=true:=by kernel_rfl
theorem Qv:Az prog 119=true:=by kernel_rfl
theorem UG:Az prog 120=true:=by kernel_rfl
theorem Tw:Az prog 121=true:=by kernel_rfl
theorem UP:Az prog 122=true:=by kernel_rfl
theorem Tt:Az prog 123=true:=by kernel_rfl
theorem UY:Az prog 132=true:=by kernel_rfl
theorem Uy:Az prog 133=true:=by kernel_rfl
theorem Na:Az prog 134=true:=by kernel_rfl
theorem Tj:Az prog 135=true:=by kernel_rfl
theorem Qm:Az prog 136=true:=by kernel_rfl
theorem Tx:Az prog 137=true:=by kernel_rfl
theorem UC:Az prog 138=true:=by kernel_rfl
theorem KM:Az prog 139=true:=by kernel_rfl
theorem Ux:Az prog 140=true:=by kernel_rfl
theorem UH:Az prog 141=true:=by kernel_rfl
theorem UQ:Az prog 142=true:=by kernel_rfl
theorem US:Az prog 143=true:=by kernel_rfl
theorem Pa:Az prog 144=true:=by kernel_rfl
theorem Fo:Az prog 145=true:=by kernel_rfl
theorem Tu:Az prog 151=true:=by kernel_rfl
theorem UZ:Az prog 152=true:=by kernel_rfl
theorem Tl:Az prog 153=true:=by kernel_rfl
theorem UI:Az prog 154=true:=by kernel_rfl
theorem Ua:Az prog 155=true:=by kernel_rfl
theorem Th:Az prog 156=true:=by kernel_rfl
theorem Tk:Az prog 157=true:=by kernel_rfl
theorem NM:Az prog 158=true:=by kernel_rfl
theorem UA:Az prog 159=true:=by kernel_rfl
theorem UV:Az prog 163=true:=by kernel_rfl
theorem Qx:Az prog 164=true:=by kernel_rfl
theorem Pw:Az prog 165=true:=by kernel_rfl
theorem Tq:Az prog 166=true:=by kernel_rfl
theorem WN:Az prog 17=true:=by kernel_rfl
theorem Qp:Az prog 170=true:=by kernel_rfl
theorem Pv:Az prog 171=true:=by kernel_rfl
theorem WG:Az prog 18=true:=by kernel_rfl
theorem Bi:Az prog 19=true:=by kernel_rfl
theorem Vr:Az prog 20=true:=by kernel_rfl
theorem II:Az prog 21=true:=by kernel_rfl
theorem TF:Az prog 22=true:=by kernel_rfl
theorem TE:Az prog 23=true:=by kernel_rfl
theorem TW:Az prog 24=true:=by kernel_rfl
theorem WV:Az prog 25=true:=by kernel_rfl
theorem WE:Az prog 26=true:=by kernel_rfl
theorem WK:Az prog 27=true:=by kernel_rfl
theorem Dd:Az prog 28=true:=by kernel_rfl
theorem RP:Az prog 29=true:=by kernel_rfl
theorem WU:Az prog 30=true:=by kernel_rfl
theorem TJ:Az prog 31=true:=by kernel_rfl
theorem XG:Az prog 32=true:=by kernel_rfl
theorem Sz:Az prog 33=true:=by kernel_rfl
theorem Lc:Az prog 36=true:=by kernel_rfl
theorem Td:Az prog 40=true:=by kernel_rfl
theorem Vh:Az prog 42=true:=by kernel_rfl
theorem WR:Az prog 43=true:=by kernel_rfl
theorem TS:Az prog 44=true:=by kernel_rfl
theorem Vp:Az prog 46=true:=by kernel_rfl
theorem MN:Az prog 47=true:=by kernel_rfl
theorem TR:Az prog 48=true:=by kernel_rfl
theorem Vc:Az prog 49=true:=by kernel_rfl
theorem Yz:Az prog 5=true:=by kernel_rfl
theorem VZ:Az prog 50=true:=by kernel_rfl
theorem Wy:Az prog 51=true:=by kernel_rfl
theorem FR:Az prog 52=true:=by kernel_rfl
theorem TV:Az prog 53=true:=by kernel_rfl
theorem WB:Az prog 54=true:=by kernel_rfl
theorem VL:Az prog 55=true:=by kernel_rfl
theorem Wq:Az prog 56=true:=by kernel_rfl
theorem Vm:Az prog 57=true:=by kernel_rfl
theorem XO:Az prog 58=true:=by kernel_rfl
theorem XW:Az prog 59=true:=by kernel_rfl
theorem Yv:Az prog 6=true:=by kernel_rfl
theorem Vk:Az prog 60=true:=by kernel_rfl
theorem OT:Az prog 61=true:=by kernel_rfl
theorem Me:Az prog 62=true:=by kernel_rfl
theorem Wo:Az prog 63=true:=by kernel_rfl
theorem XQ:Az prog 64=true:=by kernel_rfl
theorem RU:Az prog 66=true:=by kernel_rfl
theorem Ww:Az prog 68=true:=by kernel_rfl
theorem XP:Az prog 69=true:=by kernel_rfl
theorem YL:Az prog 7=true:=by kernel_rfl
theorem Po:Az prog 70=true:=by kernel_rfl
theorem Tc:Az prog 71=true:=by kernel_rfl
theorem XA:Az prog 72=true:=by kernel_rfl
theorem XY:Az prog 73=true:=by kernel_rfl
theorem Wh:Az prog 74=true:=by kernel_rfl
theorem LN:Az prog 76=true:=by kernel_rfl
theorem Vw:Az prog 77=true:=by kernel_rfl
theorem Va:Az prog 78=true:=by kernel_rfl
theorem Wm:Az prog 79=true:=by kernel_rfl
theorem Zd:Az prog 8=true:=by kernel_rfl
theorem XD:Az prog 80=true:=by kernel_rfl
theorem Vs:Az prog 81=true:=by kernel_rfl
theorem Od:Az prog 82=true:=by kernel_rfl
theorem WF:Az prog 83=true:=by kernel_rfl
theorem Wb:Az prog 84=true:=by kernel_rfl
theorem PZ:Az prog 85=true:=by kernel_rfl
theorem Wa:Az prog 86=true:=by kernel_rfl
theorem Kb:Az prog 87=true:=by kernel_rfl
theorem VV:Az prog 88=true:=by kernel_rfl
theorem TG:Az prog 89=true:=by kernel_rfl
theorem Ze:Az prog 9=true:=by kernel_rfl
theorem Wk:Az prog 90=true:=by kernel_rfl
theorem Sy:Az prog 91=true:=by kernel_rfl
theorem TC:Az prog 92=true:=by kernel_rfl
theorem XI:Az prog 93=true:=by kernel_rfl
theorem TI:Az prog 94=true:=by kernel_rfl
theorem VY:Az prog 95=true:=by kernel_rfl
theorem QF:Az prog 96=true:=by kernel_rfl
theorem Vy:Az prog 97=true:=by kernel_rfl
theorem XH:Az prog 98=true:=by kernel_rfl
theorem MR:Az prog 99=true:=by kernel_rfl
theorem IX:CU prog 110=some ([.string ByteArray.empty, .i 0, .i 0],3,32):=by kernel_rfl
theorem Nr:CU prog 134=some ([.slice none 0 0, .slice none 0 0, .slice none 0 0, .slice none 0 0],4,96):=by kernel_rfl
theorem Km:CU prog 163=some ([.i 0, .i 0],2,16):=by kernel_rfl
theorem Ub:CU prog 193=some ([.slice none 0 0, .slice none 0 0, .slice none 0 0],3,72):=by kernel_rfl
theorem BT:CU prog 2=some ([.i 0],1,8):=by kernel_rfl
theorem ZO:CU prog 3=some ([.i 0],1,8):=by kernel_rfl
theorem OL:CU prog 35=some ([.slice none 0 0],1,24):=by kernel_rfl
theorem PE:CU prog 4=some ([.bool false],1,1):=by kernel_rfl
theorem UO:CU prog 5=some ([.int .u8 0],1,1):=by kernel_rfl
theorem XN:CU prog 52=some ([.string ByteArray.empty, .i 0, .slice none 0 0, .slice none 0 0, .slice none 0 0, .i 0, .i 0],7,112):=by kernel_rfl
theorem RC:CU prog 54=some ([.string ByteArray.empty, .i 0, .slice none 0 0],3,48):=by kernel_rfl
theorem NB:CU prog 63=some ([.i 0, .i 0, .i 0, .bool false],4,32):=by kernel_rfl
theorem OI:CU prog 72=some ([.i 0, .i 0, .i 0, .bool false],4,32):=by kernel_rfl
theorem Jn:CU prog 84=some ([.i 0, .i 0, .i 0, .i 0],4,32):=by kernel_rfl
theorem La:CU prog 87=some ([.i 0, .i 0, .i 0, .i 0, .slice none 0 0, .slice none 0 0],6,80):=by kernel_rfl
theorem Fx:CU prog 9=some ([.string ByteArray.empty],1,16):=by kernel_rfl
theorem Lb:CU prog 93=some ([.string ByteArray.empty, .i 0, .i 0, .bool false],4,40):=by kernel_rfl
theorem UN:CO prog 106=some [(0,1),(1,1),(2,1)]:=by kernel_rfl
theorem Ka:CO prog 110=some [(0,1),(1,1),(2,1)]:=by kernel_rfl
theorem Te:CO prog 117=some [(0,1),(1,1)]:=by kernel_rfl
theorem RN:CO prog 134=some [(0,1),(1,1),(2,1),(3,1)]:=by kernel_rfl
theorem EV:CO prog 163=some [(0,1),(1,1)]:=by kernel_rfl
theorem UF:CO prog 193=some [(0,1),(1,1),(2,1)]:=by kernel_rfl
theorem Qw:CO prog 199=some [(0,1),(1,1)]:=by kernel_rfl
theorem Wp:CO prog 26=some [(0,1)]:=by kernel_rfl
theorem Px:CO prog 31=some [(0,1),(1,1),(2,1)]:=by kernel_rfl
theorem VX:CO prog 34=some [(0,1),(1,3),(4,1)]:=by kernel_rfl
theorem TN:CO prog 52=some [(0,1),(1,1),(2,1),(3,1),(4,1),(5,1),(6,1)]:=by kernel_rfl
theorem Vo:CO prog 54=some [(0,1),(1,1),(2,1)]:=by kernel_rfl
theorem TH:CO prog 63=some [(0,1),(1,1),(2,1),(3,1)]:=by kernel_rfl
theorem Sx:CO prog 72=some [(0,1),(1,1),(2,1),(3,1)]:=by kernel_rfl
theorem Vd:CO prog 77=some [(0,5),(5,1),(6,1),(7,1),(8,1),(9,1)]:=by kernel_rfl
theorem RX:CO prog 84=some [(0,1),(1,1),(2,1),(3,1)]:=by kernel_rfl
theorem TP:CO prog 87=some [(0,1),(1,1),(2,1),(3,1),(4,1),(5,1)]:=by kernel_rfl
theorem Mz:CO prog 93=some [(0,1),(1,1),(2,1),(3,1)]:=by kernel_rfl
theorem UX:DK prog 106=some [.slice none 0 0, .i 0, .i 0]:=by kernel_rfl
theorem Hc:DK prog 110=some [.string ByteArray.empty, .i 0, .i 0]:=by kernel_rfl
theorem Tz:DK prog 117=some [.pointer none, .slice none 0 0]:=by kernel_rfl
theorem Fm:DK prog 134=some [.slice none 0 0, .slice none 0 0, .slice none 0 0, .slice none 0 0]:=by kernel_rfl
theorem Dz:DK prog 163=some [.i 0, .i 0]:=by kernel_rfl
theorem ND:DK prog 193=some [.slice none 0 0, .slice none 0 0, .slice none 0 0]:=by kernel_rfl
theorem Kj:DK prog 199=some [.i 0, .i 0]:=by kernel_rfl
theorem OU:DK prog 26=some [.slice none 0 0]:=by kernel_rfl
theorem KV:DK prog 31=some [.slice none 0 0, .slice none 0 0, .slice none 0 0]:=by kernel_rfl
theorem Ju:DK prog 34=some [.slice none 0 0, .slice none 0 0, .slice none 0 0, .slice none 0 0, .slice none 0 0]:=by kernel_rfl
theorem FD:DK prog 52=some [.string ByteArray.empty, .i 0, .slice none 0 0, .slice none 0 0, .slice none 0 0, .i 0, .i 0]:=by kernel_rfl
theorem Jo:DK prog 54=some [.string ByteArray.empty, .i 0, .slice none 0 0]:=by kernel_rfl
theorem Ma:DK prog 63=some [.i 0, .i 0, .i 0, .bool false]:=by kernel_rfl
theorem MO:DK prog 72=some [.i 0, .i 0, .i 0, .bool false]:=by kernel_rfl
theorem XM:DK prog 77=some [.slice none 0 0, .slice none 0 0, .slice none 0 0, .slice none 0 0, .slice none 0 0, .slice none 0 0, .slice none 0 0, .slice none 0 0, .slice none 0 0, .slice none 0 0]:=by kernel_rfl
theorem Mq:DK prog 84=some [.i 0, .i 0, .i 0, .i 0]:=by kernel_rfl
theorem IE:DK prog 87=some [.i 0, .i 0, .i 0, .i 0, .slice none 0 0, .slice none 0 0]:=by kernel_rfl
theorem Jr:DK prog 93=some [.string ByteArray.empty, .i 0, .i 0, .bool false]:=by kernel_rfl
def Pz(n:Nat)(a0_s:ByteArray)(a1_cutset:ByteArray):Option ByteArray:=if a0_s.size<=9223372036854775807∧a1_cutset.size<4294967281∧(a1_cutset.data.toList.all fun b=>decide (b.toNat<128))=true then some ⟨(Lib.trimS a0_s.data.toList a1_cutset.data.toList).toArray⟩else none
theorem Xr{n:Nat}{a0_s:ByteArray}{a1_cutset:ByteArray}{r:ByteArray}{w:World}(hF:Pz n a0_s a1_cutset=some r):
 Calls prog 97 [.string a0_s, .string a1_cutset].toArray w (Bj fun u w2=>u= .string r∧AJ w w2):=by
 unfold Pz at hF
 split at hF
 ·rename_i h
  obtain rfl:=Option.some.inj hF
  refine(strings_Trim_ascii a0_s a1_cutset w h.1 h.2.1 (fun j b hb=>of_decide_eq_true (List.all_eq_true.1 h.2.2 b (List.mem_of_getElem? hb)))).mono ?_
  rintro e w' ⟨rfl,hB⟩
  exact⟨_,rfl,rfl,hB⟩
 ·cases hF
def Uk(n:Nat)(a0_s:ByteArray)(a1_c:Int):Option Int:=some (Lib.indexByte a0_s.data.toList a1_c.toNat.toUInt8)
theorem Zv{n:Nat}{a0_s:ByteArray}{a1_c:Int}{r:Int}{w:World}(hF:Uk n a0_s a1_c=some r):
 Calls prog 98 [.string a0_s, .int .u8 a1_c].toArray w (Bj fun u w2=>u= .i r∧AJ w w2):=by
 obtain rfl:=Option.some.inj hF
 refine(strings_IndexByte a0_s a1_c w).mono ?_
 rintro e w' ⟨rfl,rfl⟩
 exact⟨_,rfl,rfl,AJ.refl _⟩
def Fb(a0:List ByteArray)(a1:ByteArray)(k0:Int->Option Int):Nat->Int->Option Int
 |0,_=>none
 |m+1,i5=>(bif decide (i5<(a0.length:Int))then((AM a0 i5).bind fun x6=>(bif (a1.toList==x6.toList)then(some i5)else(Fb a0 a1 k0 m (wrap .i64 (i5+1)))))else(k0 i5))
def Ss(n:Nat)(a0:List ByteArray)(a1:ByteArray):Option Int:=(Fb a0 a1 (fun i5=>(some (-1))) n 0)
theorem Yj{C:List ByteArray}{D:ByteArray}{r:Int}{F:Value}(hF:Ss n C D=some r)(hH:H<=w.heap.size)(G:AD BF w (Iv 0 H) C F):
 Calls prog 151 [F,.string D].toArray w (Bj fun u L=>u= .i r∧AJ w L):=by
 refine AH func151 rfl ntmps151 ?_;have I:=AJ.refl w;unfold Ss at hF;refine Rc 9 (Yl rfl (Bo rfl underlying28 (G.oh hH I)) (Ro 4 ?_));refine WC.loopD (fun B a wl=>∃(A:Int),Kn 19 [(0,F),(1,.string D),(7,.i ((C.length:Int))),(8,.i A)] a∧AJ w wl∧w.heap.size<=wl.heap.size∧Fb C D (fun A=>(some (-1))) B A=some r) n ?_ ?_
 ·intro a hK;exact⟨0,hK.sub rfl,I,Nat.le_refl _,hF⟩
 ·rintro B a Q ⟨A,hK,E,O,hF⟩;revert a;change WC _ _ _ _ _ _
  cases B with
  |zero=>exact CE hF
  |succ B=>
   rw [Fb.eq_2]at hF;refine Rc 6 (Wc rfl hF ?_ ?_)
   ·intro hF;refine Rc 15 ?_;have⟨R,K,hF⟩:=AC hF;refine Ye rfl (Bh rfl underlying28 NR (G.oh hH E) K) ?_;rintro _ ⟨M,P,_,rfl,N,rfl,J⟩;refine Yl rfl (BU 0 rfl GH J rfl rfl) (Ro 3 (Wc rfl hF ?_ ?_))
    ·intro hF;refine Rc 12 ?_;cases Ap hF;exact Ne rfl rfl ⟨_,rfl,rfl,E⟩
    ·intro hF;refine Rc 8 ?_;intro a hK;exact⟨B,nr,(wrap .i64 (A+1)),hK.sub rfl,E,(by omega),hF⟩
   ·intro hF;refine Rc 11 ?_;cases Ap hF;exact Ne rfl rfl ⟨_,rfl,rfl,E⟩
def QE(n:Nat)(a0:List ByteArray)(a1:ByteArray):Option Bool:=((Ss n a0 a1).bind fun r3=>(some (decide (r3>=0))))
theorem Xk{A:List ByteArray}{B:ByteArray}{r:Bool}{D:Value}(hF:QE n A B=some r)(hH:H<=w.heap.size)(E:AD BF w (Iv 0 H) A D):
 Calls prog 132 [D,.string B].toArray w (Bj fun u J=>u= .bool r∧AJ w J):=by
 refine AH func132 rfl ntmps132 ?_;have C:=AJ.refl w;unfold QE at hF;refine Rc 9 ?_;have⟨L,G,hF⟩:=AC hF;refine Ef rfl (Ay rfl Tu (Yj G (by omega) (E.oh hH C):)) ?_;rintro _ M ⟨rfl,I⟩;have⟨F,K⟩:=Et C I;refine Ro 5 ?_;cases Ap hF;exact Ne rfl rfl ⟨_,rfl,rfl,F⟩
def Gp(a0:List Int)(k0:Int->Int->Option Int):Nat->Int->Int->Option Int
 |0,_,_=>none
 |m+1,i14,i15=>(bif decide (i15<(a0.length:Int))then((AM a0 i15).bind fun x16=>(Gp a0 k0 m (min i14 x16) (wrap .i64 (i15+1))))else(k0 i14 i15))
def Qt(n:Nat)(a0:List Int):Option Int:=(bif decide ((a0.length:Int)<1)then none else((AM a0 0).bind fun x3=>(Gp a0 (fun i14 i15=>(some i14)) n x3 1)))
theorem Yr{F:List Int}{r:Int}{I:Value}(hF:Qt n F=some r)(hH:H<=w.heap.size)(D:AD (AI .i64) w (Iv 0 H) F I):
 Calls prog 155 [I].toArray w (Bj fun u N=>u= .i r∧AJ w N):=by
 refine AH func155 rfl ntmps155 ?_;have G:=AJ.refl w;unfold Qt at hF;refine Rc 9 (Yl rfl (Bo rfl underlying35 (D.oh hH G)) (Ro 3 (Wc rfl hF ?_ ?_)))
 ·intro hF;cases hF
 ·intro hF;refine Rc 5 ?_;have⟨P,M,hF⟩:=AC hF;refine Ye rfl (Bh rfl underlying35 BA (D.oh hH G) M) ?_;rintro _ ⟨R,W,_,rfl,S,rfl,K⟩;refine Yl rfl (BU 0 rfl Aa K rfl rfl) (Ro 10 ?_);refine WC.loopD (fun C a wl=>∃(A:Int) (B:Int),Kn 25 [(0,I),(3,.i A),(4,.i B)] a∧AJ w wl∧w.heap.size<=wl.heap.size∧Gp F (fun A B=>(some A)) C A B=some r) n ?_ ?_
  ·intro a hK;exact⟨P,1,hK.sub rfl,G,Nat.le_refl _,hF⟩
  ·rintro C a X ⟨A,B,hK,E,U,hF⟩;revert a;change WC _ _ _ _ _ _
   cases C with
   |zero=>exact CE hF
   |succ C=>
    rw [Gp.eq_2]at hF;refine Rc 5 (Yl rfl (Bo rfl underlying35 (D.oh hH E)) (Ro 3 (Wc rfl hF ?_ ?_)))
    ·intro hF;refine Rc 8 ?_;have⟨O,L,hF⟩:=AC hF;refine Ye rfl (Bh rfl underlying35 BA (D.oh hH E) L) ?_;rintro _ ⟨Q,V,_,rfl,T,rfl,J⟩;refine Yl rfl (BU 0 rfl Aa J rfl rfl) (Yl rfl (Mk rfl rfl rfl) (Ro 10 ?_));intro a hK;exact⟨C,nr,(min A O),(wrap .i64 (B+1)),hK.sub rfl,E,(by omega),hF⟩
    ·intro hF;refine Rc 12 ?_;cases Ap hF;exact Ne rfl rfl ⟨_,rfl,rfl,E⟩
def NI(n:Nat)(a0:List Int):Option (List Int):=((BW (([]:List Int)) a0 8).bind fun z15=>(some z15))
theorem Vl{B:List Int}{r:List Int}{K:Value}(hF:NI n B=some r)(hH:H<=w.heap.size)(C:AD (AI .i64) w (Iv 0 H) B K):
 Calls prog 92 [K].toArray w (Bj fun u L=>∃J,u=J∧AB (AI .i64) L w.heap.size (Iv 0 0) 2 r J∧AJ w L):=by
 refine AH func92 rfl ntmps92 ?_;have A:=AJ.refl w;unfold NI at hF;refine Rc 9 ?_
 rcases AD.nil_or (C.oh hH A)with ⟨rfl,hnil⟩|⟨p_,n_,c_,rfl⟩
 ·replace hF:(some (([]:List Int)))=some r:=(by simpa [hnil,BW] using hF);refine Yl rfl (MP rfl underlying35 rfl rfl) (Ro 2 (WC.cond_t rfl (Rc 7 ?_)));cases Ap hF;exact Ne rfl rfl ⟨_,rfl,_,rfl,AB.nil _ _ _ _ _,A⟩
 ·refine Yl rfl (Mm rfl underlying35 rfl rfl) (Ro 2 (WC.cond_f rfl (Rc 4 ?_)));refine Ef rfl (AG (c:=(AI .i64)) (xs:=([]:List Int)) (S:=(Iv 0 0)) (uss:=[]) (out:=[]) rfl underlying35 BT rfl rfl (AL [] rfl rfl rfl) rfl rfl rfl rfl (AV (uss:=[]) (show BK _ _ _ _ _ from trivial) rfl) (fun k h=>by have:=h.2;omega) rfl) ?_;rintro Y a ⟨Q,I,T,W,P,O⟩;have⟨E,U⟩:=Et A P;have D:=As I;clear I;refine Ro 1 ?_;have⟨b,M,hF⟩:=AC hF;refine Ef rfl (AX (c:=(AI .i64)) rfl underlying35 BT rfl rfl rfl rfl rfl O (by omega) (C.oh hH E) M) ?_;rintro X Z ⟨G,F⟩;have⟨N,V⟩:=Ge E F D (by omega);have R:=DN F G D (by omega) (by omega);refine Ro 4 ?_;cases Ap hF;exact Ne rfl rfl ⟨_,rfl,_,rfl,AB.base G (by omega),N⟩
def IT(i9:Int)(k2:Int->Int->(List Int)->Option (List Int)):Nat->Int->Int->(List Int)->Option (List Int)
 |0,_,_,_=>none
 |m+1,i37,i38,l39=>(bif decide (i38<((l39.drop (i9).toNat).length:Int))then((AM (l39.drop (i9).toNat) i38).bind fun x41=>((AM (l39.drop (i9).toNat) (wrap .i64 (i38-1))).bind fun x50=>(bif (x41 !=x50)then((AM (l39.drop (i9).toNat) i38).bind fun x63=>((AM l39 i37).bind fun x72=>(IT i9 k2 m (wrap .i64 (i37+1)) (wrap .i64 (i38+1)) ((l39.set (i37).toNat x63)))))else(IT i9 k2 m i37 (wrap .i64 (i38+1)) l39))))else(k2 i37 i38 l39))
def JX(n:Nat)(a0:List Int)(k0:Int->Option (List Int)):Nat->Int->Option (List Int)
 |0,_=>none
 |m+1,i9=>(bif decide (i9<(a0.length:Int))then((AM a0 i9).bind fun x11=>((AM a0 (wrap .i64 (i9-1))).bind fun x18=>(bif (x11==x18)then((Dr a0 i9 (a0.length:Int)).bind fun z29=>(IT i9 (fun i37 i38 l39=>((Dr l39 i37 (l39.length:Int)).bind fun z41=>((Dr ((l39.take (i37).toNat++List.replicate (l39.length-(i37).toNat) 0)) 0 i37).bind fun z52=>(some z52)))) n i9 1 a0))else(JX n a0 k0 m (wrap .i64 (i9+1))))))else(k0 i9))
def TB(n:Nat)(a0:List Int):Option (List Int):=(bif decide ((a0.length:Int)<2)then(some a0)else(JX n a0 (fun i9=>(some a0)) n 1))
theorem bP{G:List Int}{r:List Int}{B:Value}{B3:Nat}(hF:TB n G=some r)(K:AB (AI .i64) w B3 (Iv 0 0) 2 G B)(d0:B3<=w.heap.size):
 Calls prog 26 [B].toArray w (Bj fun u d=>∃N,u=N∧AB (AI .i64) d B3 (Iv 0 0) 2 r N∧Gr w B N∧Ac (pO B) w d):=by
 refine AH func26 rfl ntmps26 ?_;have P:Ac (pO B) w w:=Ac.refl _ w;have M:=AB.blk K;unfold TB at hF;refine Rc 9 (Yl rfl (Ev rfl underlying35 K) (Ro 3 (Wc rfl hF ?_ ?_)))
 ·intro hF;refine Rc 8 ?_;cases Ap hF;exact Ne rfl rfl ⟨_,rfl,_,rfl,K,(Gr.refl _ _),P⟩
 ·intro hF;refine Rc 9 ?_;refine WC.loopD (fun J a wl=>∃(F:Int),Kn 61 [(0,B),(3,.i F)] a∧Ac (pO B) w wl∧w.heap.size<=wl.heap.size∧AB (AI .i64) wl (B3) (Iv 0 0) 2 G B∧JX n G (fun F=>(some G)) J F=some r) n ?_ ?_
  ·intro a hK;exact⟨1,hK.sub rfl,P,Nat.le_refl _,K,hF⟩
  ·rintro J a B1 ⟨F,hK,T,j0,D,hF⟩;revert a;change WC _ _ _ _ _ _
   cases J with
   |zero=>exact CE hF
   |succ J=>
    rw [JX.eq_2]at hF;refine Rc 5 (Yl rfl (Ev rfl underlying35 D) (Ro 3 (Wc rfl hF ?_ ?_)))
    ·intro hF;refine Rc 5 (WC.quiet Tryz.hm (by kernel_rfl) (Qr 2 ?_));have⟨D1,E0,hF⟩:=AC hF;refine Qe rfl (CV rfl underlying35 BA D E0) ?_;rintro _ ⟨U0,s0,rfl,Y0,s,e⟩;obtain rfl:=s;refine Qy rfl (BU 0 rfl Aa e rfl rfl) (Qr 3 ?_);have⟨E1,F0,hF⟩:=AC hF;refine Qe rfl (CV rfl underlying35 BA D F0) ?_;rintro _ ⟨V0,t0,rfl,Z0,t,f⟩;obtain rfl:=t;refine Qy rfl (BU 0 rfl Aa f rfl rfl) (Qr 1 ?_);refine QL.done fun O0 X=>?_;have⟨Q,k0⟩:=Bx T X;have D:=D.ext X;refine Re 1 (Wc rfl hF ?_ ?_)
     ·intro hF;refine Rc 4 ?_;have⟨I1,K0,hF⟩:=AC hF;refine Ye rfl (LM (c:=(AI .i64)) rfl underlying35 BA rfl rfl (AB.slb D M) K0 (Cg.spot (Cg.of D))) ?_;rintro N0 ⟨e0,g0,L⟩;refine Ro 10 ?_;refine WC.loopD (fun I a wl=>∃(C:Int) (H:Int) (E:List Int),Kn 61 [(0,B),(3,.i C),(4,N0),(5,.i H)] a∧Ac (pO B) w wl∧O0.heap.size<=wl.heap.size∧AB (AI .i64) wl (B3) (Iv 0 0) 2 E B∧IT F (fun C H E=>(Option.bind (Dr E C (E.length:Int)) fun J1=>(Option.bind (Dr ((E.take (C).toNat++List.replicate (E.length-(C).toNat) 0)) 0 C) fun Q0=>(some Q0)))) I C H E=some r) n ?_ ?_
      ·intro a hK;exact⟨F,1,G,hK.sub rfl,Q,Nat.le_refl _,D,hF⟩
      ·rintro I a z0 ⟨C,H,E,hK,R,l0,A,hF⟩;revert a;change WC _ _ _ _ _ _
       cases I with
       |zero=>exact CE hF
       |succ I=>
        rw [IT.eq_2]at hF;refine Rc 5 (Yl rfl (Rs rfl underlying35 L A) (Ro 3 (Wc rfl hF ?_ ?_)))
        ·intro hF;refine Rc 5 (WC.quiet Tryz.hm (by kernel_rfl) (Qr 2 ?_));have⟨F1,G0,hF⟩:=AC hF;refine Qe rfl (Lh rfl underlying35 BA L A G0) ?_;rintro _ ⟨R0,p0,u0,rfl,a0,v,i⟩;obtain rfl:=v;refine Qy rfl (BU 0 rfl Aa i rfl rfl) (Qr 3 ?_);have⟨G1,H0,hF⟩:=AC hF;refine Qe rfl (Lh rfl underlying35 BA L A H0) ?_;rintro _ ⟨S0,q0,v0,rfl,b0,x,j⟩;obtain rfl:=x;refine Qy rfl (BU 0 rfl Aa j rfl rfl) (Qr 1 ?_);refine QL.done fun A1 Y=>?_;have⟨S,m0⟩:=Bx R Y;have A:=A.ext Y;refine Re 1 (Wc rfl hF ?_ ?_)
         ·intro hF;refine Rc 6 ?_;have⟨O,I0,hF⟩:=AC hF;refine Ye rfl (Lh rfl underlying35 BA L A I0) ?_;rintro _ ⟨T0,r0,w0,rfl,c0,y,l⟩;obtain rfl:=y;refine Yl rfl (BU 0 rfl Aa l rfl rfl) ?_;have⟨H1,b,hF⟩:=AC hF;refine Ye rfl (CV rfl underlying35 BA A b) ?_;rintro _ ⟨W0,x0,rfl,U,V,m⟩;have z:=V;obtain rfl:=V;refine Ef rfl (BE (c:=(AI .i64)) (us':=[.i O]) (y':=O) 0 _ rfl rfl rfl A U b rfl BA rfl z m rfl rfl rfl (fun k h=>absurd h.2 (Nat.not_lt_zero k))) ?_;rintro _ C1 ⟨D0,B0⟩;have⟨o,n0⟩:=DJ S D0 (Or.inl U);refine Ro 15 ?_;intro a hK;exact⟨I,nr,(wrap .i64 (C+1)),(wrap .i64 (H+1)),((E.set (C).toNat O)),hK.sub rfl,o,(by omega),B0,hF⟩
         ·intro hF;refine Rc 9 ?_;intro a hK;exact⟨I,nr,C,(wrap .i64 (H+1)),E,hK.sub rfl,S,(by omega),A,hF⟩
        ·intro hF;refine Rc 9 ?_;have⟨K1,L0,hF⟩:=AC hF;refine Ye rfl (LM (c:=(AI .i64)) rfl underlying35 BA rfl rfl (AB.slb A M) L0 (Cg.spot (Cg.of A))) ?_;rintro y0 ⟨f0,h0,q⟩;refine Ef rfl (KY (c:=(AI .i64)) (yz:=0) rfl underlying35 BT rfl q A rfl rfl rfl rfl) ?_;rintro _ P0 ⟨Z,C0⟩;have p:Ac (pO B) w P0:=Ac.but R Z (Es (fun g hg=>(Or.inl hg)));have o0:=(Z).size;refine Ro 6 ?_;have⟨L1,J0,hF⟩:=AC hF;refine Ye rfl (Um (c:=(AI .i64)) rfl underlying35 BA rfl rfl C0 J0) ?_;rintro M0 ⟨W,i0,A0⟩;have X0:Bd M0 (B3) (w.heap.size):=fun g hg=>M g (by rwa [W,Ml]at hg);refine Ro 9 ?_;cases Ap hF;exact Ne rfl rfl ⟨_,rfl,_,rfl,A0,(by rw [W];exact Gr.cut (Gr.refl _ _)),p⟩
     ·intro hF;refine Rc 9 ?_;intro a hK;exact⟨J,nr,(wrap .i64 (F+1)),hK.sub rfl,Q,(by omega),D,hF⟩
    ·intro hF;refine Rc 12 ?_;cases Ap hF;exact Ne rfl rfl ⟨_,rfl,_,rfl,D,(Gr.refl _ _),T⟩
end Go.Proofs.YtbcnjcjcdknhhaaGreatDoor
