/- The walks: every function that FnGateList reaches computes the plain function that is typed beside it; no condition. -/
import Derived.Test.YtbcnjcjcdknhhaaGreatDoorProg
import Derived.Test.YtbcnjcjcdknhhaaGreatDoorDat
import Derived.Test.YtbcnjcjcdknhhaaGreatDoorShelf
set_option linter.all false
set_option maxRecDepth 20000
set_option maxHeartbeats 40000000
namespace Go.Proofs.YtbcnjcjcdknhhaaGreatDoor
open Go Go.RowKit Go.Eng Go.Proofs.Tryz
open Go.IntKind (wrap)
variable {n H:Nat} {w:World}
theorem Tryz.hm:Tryz.prog.follows .mixedOrders=true:=by kernel_rfl
theorem Ni:Ci prog 110=some true:=by kernel_rfl
theorem Fc:Ci prog 134=some true:=by kernel_rfl
theorem Uo:Ci prog 163=some true:=by kernel_rfl
theorem Jg:Ci prog 193=some true:=by kernel_rfl
theorem Nk:Ci prog 199=some true:=by kernel_rfl
theorem Ac:Ci prog 2=some false:=by kernel_rfl
theorem UM:Ci prog 22=some false:=by kernel_rfl
theorem Dh:Ci prog 24=some false:=by kernel_rfl
theorem FQ:Ci prog 26=some true:=by kernel_rfl
theorem DG:Ci prog 27=some false:=by kernel_rfl
theorem Ft:Ci prog 28=some false:=by kernel_rfl
theorem EL:Ci prog 29=some false:=by kernel_rfl
theorem Po:Ci prog 3=some false:=by kernel_rfl
theorem CF:Ci prog 31=some true:=by kernel_rfl
theorem DW:Ci prog 32=some false:=by kernel_rfl
theorem Be:Ci prog 34=some true:=by kernel_rfl
theorem Av:Ci prog 35=some false:=by kernel_rfl
theorem Cv:Ci prog 4=some false:=by kernel_rfl
theorem Xo:Ci prog 46=some true:=by kernel_rfl
theorem DB:Ci prog 49=some false:=by kernel_rfl
theorem XN:Ci prog 5=some false:=by kernel_rfl
theorem Eh:Ci prog 50=some false:=by kernel_rfl
theorem Bb:Ci prog 52=some true:=by kernel_rfl
theorem IQ:Ci prog 54=some true:=by kernel_rfl
theorem Ri:Ci prog 63=some true:=by kernel_rfl
theorem Oc:Ci prog 64=some false:=by kernel_rfl
theorem Kg:Ci prog 68=some false:=by kernel_rfl
theorem PA:Ci prog 72=some true:=by kernel_rfl
theorem Oy:Ci prog 73=some false:=by kernel_rfl
theorem Ln:Ci prog 74=some false:=by kernel_rfl
theorem YI:Ci prog 75=some false:=by kernel_rfl
theorem Lh:Ci prog 84=some true:=by kernel_rfl
theorem Dv:Ci prog 85=some false:=by kernel_rfl
theorem Ep:Ci prog 87=some true:=by kernel_rfl
theorem Gj:Ci prog 9=some false:=by kernel_rfl
theorem Ob:Ci prog 93=some true:=by kernel_rfl
theorem DJ:BS prog 110=some 3:=by kernel_rfl
theorem Bt:BS prog 134=some 4:=by kernel_rfl
theorem Nq:BS prog 163=some 2:=by kernel_rfl
theorem Fa:BS prog 193=some 3:=by kernel_rfl
theorem Ij:BS prog 199=some 2:=by kernel_rfl
theorem BF:BS prog 2=some 1:=by kernel_rfl
theorem Wp:BS prog 24=some 1:=by kernel_rfl
theorem EP:BS prog 26=some 1:=by kernel_rfl
theorem WN:BS prog 29=some 1:=by kernel_rfl
theorem Mo:BS prog 3=some 1:=by kernel_rfl
theorem Bu:BS prog 31=some 3:=by kernel_rfl
theorem WK:BS prog 32=some 1:=by kernel_rfl
theorem BT:BS prog 34=some 5:=by kernel_rfl
theorem Ee:BS prog 35=some 1:=by kernel_rfl
theorem DC:BS prog 4=some 1:=by kernel_rfl
theorem Rm:BS prog 46=some 4:=by kernel_rfl
theorem Tt:BS prog 49=some 1:=by kernel_rfl
theorem XG:BS prog 5=some 1:=by kernel_rfl
theorem Qn:BS prog 50=some 1:=by kernel_rfl
theorem BG:BS prog 52=some 7:=by kernel_rfl
theorem CM:BS prog 54=some 3:=by kernel_rfl
theorem Ec:BS prog 63=some 4:=by kernel_rfl
theorem HD:BS prog 72=some 4:=by kernel_rfl
theorem UH:BS prog 74=some 1:=by kernel_rfl
theorem XI:BS prog 75=some 1:=by kernel_rfl
theorem FU:BS prog 84=some 4:=by kernel_rfl
theorem CC:BS prog 87=some 6:=by kernel_rfl
theorem OK:BS prog 9=some 1:=by kernel_rfl
theorem DQ:BS prog 93=some 4:=by kernel_rfl
theorem NT:Ai prog 106 0=some 0:=by kernel_rfl
theorem JG:Ai prog 106 1=some 1:=by kernel_rfl
theorem EQ:Ai prog 106 2=some 2:=by kernel_rfl
theorem Mt:Ai prog 110 0=some 0:=by kernel_rfl
theorem EN:Ai prog 110 1=some 1:=by kernel_rfl
theorem Fo:Ai prog 110 2=some 2:=by kernel_rfl
theorem JF:Ai prog 117 0=some 0:=by kernel_rfl
theorem HZ:Ai prog 117 1=some 1:=by kernel_rfl
theorem Co:Ai prog 134 0=some 0:=by kernel_rfl
theorem Dk:Ai prog 134 1=some 1:=by kernel_rfl
theorem ES:Ai prog 134 2=some 2:=by kernel_rfl
theorem Cm:Ai prog 134 3=some 3:=by kernel_rfl
theorem JK:Ai prog 193 0=some 0:=by kernel_rfl
theorem Ix:Ai prog 193 1=some 1:=by kernel_rfl
theorem DE:Ai prog 193 2=some 2:=by kernel_rfl
theorem Ke:Ai prog 199 0=some 0:=by kernel_rfl
theorem Mm:Ai prog 199 1=some 1:=by kernel_rfl
theorem CO:Ai prog 26 0=some 0:=by kernel_rfl
theorem CG:Ai prog 31 0=some 0:=by kernel_rfl
theorem DL:Ai prog 31 1=some 1:=by kernel_rfl
theorem Ch:Ai prog 31 2=some 2:=by kernel_rfl
theorem DM:Ai prog 34 0=some 0:=by kernel_rfl
theorem Bh:Ai prog 34 1=some 1:=by kernel_rfl
theorem CK:Ai prog 34 2=some 4:=by kernel_rfl
theorem MB:Ai prog 46 0=some 0:=by kernel_rfl
theorem PG:Ai prog 46 1=some 1:=by kernel_rfl
theorem Oe:Ai prog 46 2=some 2:=by kernel_rfl
theorem SZ:Ai prog 46 3=some 3:=by kernel_rfl
theorem JN:Ai prog 52 0=some 0:=by kernel_rfl
theorem JJ:Ai prog 52 1=some 1:=by kernel_rfl
theorem Bv:Ai prog 52 2=some 2:=by kernel_rfl
theorem Ca:Ai prog 52 3=some 3:=by kernel_rfl
theorem Cb:Ai prog 52 4=some 4:=by kernel_rfl
theorem PB:Ai prog 52 5=some 5:=by kernel_rfl
theorem Od:Ai prog 52 6=some 6:=by kernel_rfl
theorem Oi:Ai prog 54 0=some 0:=by kernel_rfl
theorem Cu:Ai prog 54 1=some 1:=by kernel_rfl
theorem By:Ai prog 54 2=some 2:=by kernel_rfl
theorem JL:Ai prog 63 0=some 0:=by kernel_rfl
theorem Ov:Ai prog 63 1=some 1:=by kernel_rfl
theorem MX:Ai prog 63 2=some 2:=by kernel_rfl
theorem MZ:Ai prog 63 3=some 3:=by kernel_rfl
theorem MD:Ai prog 72 0=some 0:=by kernel_rfl
theorem TE:Ai prog 72 1=some 1:=by kernel_rfl
theorem JE:Ai prog 72 2=some 2:=by kernel_rfl
theorem MT:Ai prog 72 3=some 3:=by kernel_rfl
theorem Ox:Ai prog 77 0=some 0:=by kernel_rfl
theorem KQ:Ai prog 77 1=some 5:=by kernel_rfl
theorem FN:Ai prog 77 2=some 6:=by kernel_rfl
theorem Ok:Ai prog 77 3=some 7:=by kernel_rfl
theorem On:Ai prog 77 4=some 8:=by kernel_rfl
theorem PF:Ai prog 84 0=some 0:=by kernel_rfl
theorem KU:Ai prog 84 1=some 1:=by kernel_rfl
theorem Ou:Ai prog 84 2=some 2:=by kernel_rfl
theorem OZ:Ai prog 84 3=some 3:=by kernel_rfl
theorem Cs:Ai prog 87 0=some 0:=by kernel_rfl
theorem Cr:Ai prog 87 1=some 1:=by kernel_rfl
theorem CR:Ai prog 87 2=some 2:=by kernel_rfl
theorem Ct:Ai prog 87 3=some 3:=by kernel_rfl
theorem Ei:Ai prog 87 4=some 4:=by kernel_rfl
theorem En:Ai prog 87 5=some 5:=by kernel_rfl
theorem KX:Ai prog 93 0=some 0:=by kernel_rfl
theorem KW:Ai prog 93 1=some 1:=by kernel_rfl
theorem Hy:Ai prog 93 2=some 2:=by kernel_rfl
theorem DN:Ai prog 93 3=some 3:=by kernel_rfl
theorem TC:MF prog 87 0=some (2,0):=by kernel_rfl
theorem Xp:Ay prog 10=true:=by kernel_rfl
theorem Vk:Ay prog 100=true:=by kernel_rfl
theorem SD:Ay prog 101=true:=by kernel_rfl
theorem VA:Ay prog 102=true:=by kernel_rfl
theorem Je:Ay prog 103=true:=by kernel_rfl
theorem Kb:Ay prog 104=true:=by kernel_rfl
theorem Nt:Ay prog 105=true:=by kernel_rfl
theorem Kw:Ay prog 106=true:=by kernel_rfl
theorem Un:Ay prog 107=true:=by kernel_rfl
theorem Vf:Ay prog 108=true:=by kernel_rfl
theorem UZ:Ay prog 109=true:=by kernel_rfl
theorem Mj:Ay prog 11=true:=by kernel_rfl
theorem VJ:Ay prog 110=true:=by kernel_rfl
theorem RB:Ay prog 111=true:=by kernel_rfl
theorem VU:Ay prog 112=true:=by kernel_rfl
theorem Ub:Ay prog 113=true:=by kernel_rfl
theorem VG:Ay prog 114=true:=by kernel_rfl
theorem Vb:Ay prog 115=true:=by kernel_rfl
theorem Uq:Ay prog 116=true:=by kernel_rfl
theorem VK:Ay prog 117=true:=by kernel_rfl
theorem Uj:Ay prog 118=true:=by kernel_rfl
theorem Rx:Ay prog 119=true:=by kernel_rfl
theorem Wx:Ay prog 12=true:=by kernel_rfl
theorem Uh:Ay prog 120=true:=by kernel_rfl
theorem VH:Ay prog 121=true:=by kernel_rfl
theorem VW:Ay prog 122=true:=by kernel_rfl
theorem Uy:Ay prog 123=true:=by kernel_rfl
theorem XC:Ay prog 13=true:=by kernel_rfl
theorem Ua:Ay prog 132=true:=by kernel_rfl
theorem Ug:Ay prog 133=true:=by kernel_rfl
theorem OE:Ay prog 134=true:=by kernel_rfl
theorem Us:Ay prog 135=true:=by kernel_rfl
theorem SK:Ay prog 136=true:=by kernel_rfl
theorem VF:Ay prog 137=true:=by kernel_rfl
theorem Ux:Ay prog 138=true:=by kernel_rfl
theorem Kh:Ay prog 139=true:=by kernel_rfl
theorem WU:Ay prog 14=true:=by kernel_rfl
theorem Vc:Ay prog 140=true:=by kernel_rfl
theorem VD:Ay prog 141=true:=by kernel_rfl
theorem UV:Ay prog 142=true:=by kernel_rfl
theorem VB:Ay prog 143=true:=by kernel_rfl
theorem Qf:Ay prog 144=true:=by kernel_rfl
theorem Fb:Ay prog 145=true:=by kernel_rfl
theorem UE:Ay prog 15=true:=by kernel_rfl
theorem VO:Ay prog 151=true:=by kernel_rfl
theorem Uw:Ay prog 152=true:=by kernel_rfl
theorem VI:Ay prog 153=true:=by kernel_rfl
theorem UW:Ay prog 154=true:=by kernel_rfl
theorem Vj:Ay prog 155=true:=by kernel_rfl
theorem Vg:Ay prog 156=true:=by kernel_rfl
theorem Up:Ay prog 157=true:=by kernel_rfl
theorem OB:Ay prog 158=true:=by kernel_rfl
theorem VV:Ay prog 159=true:=by kernel_rfl
theorem XT:Ay prog 16=true:=by kernel_rfl
theorem VC:Ay prog 163=true:=by kernel_rfl
theorem Qq:Ay prog 164=true:=by kernel_rfl
theorem QU:Ay prog 165=true:=by kernel_rfl
theorem UU:Ay prog 166=true:=by kernel_rfl
theorem YL:Ay prog 17=true:=by kernel_rfl
theorem Pz:Ay prog 170=true:=by kernel_rfl
theorem RK:Ay prog 171=true:=by kernel_rfl
theorem Ws:Ay prog 18=true:=by kernel_rfl
theorem Bq:Ay prog 19=true:=by kernel_rfl
theorem Xc:Ay prog 20=true:=by kernel_rfl
theorem JB:Ay prog 21=true:=by kernel_rfl
theorem Tn:Ay prog 22=true:=by kernel_rfl
theorem YP:Ay prog 23=true:=by kernel_rfl
theorem UO:Ay prog 24=true:=by kernel_rfl
theorem XQ:Ay prog 27=true:=by kernel_rfl
theorem DX:Ay prog 28=true:=by kernel_rfl
theorem Rt:Ay prog 29=true:=by kernel_rfl
theorem We:Ay prog 30=true:=by kernel_rfl
theorem Th:Ay prog 31=true:=by kernel_rfl
theorem WQ:Ay prog 32=true:=by kernel_rfl
theorem Tm:Ay prog 33=true:=by kernel_rfl
theorem UN:Ay prog 34=true:=by kernel_rfl
theorem WX:Ay prog 35=true:=by kernel_rfl
theorem KB:Ay prog 36=true:=by kernel_rfl
theorem Wu:Ay prog 37=true:=by kernel_rfl
theorem WI:Ay prog 38=true:=by kernel_rfl
theorem Xu:Ay prog 39=true:=by kernel_rfl
theorem NR:Ay prog 40=true:=by kernel_rfl
theorem Xi:Ay prog 41=true:=by kernel_rfl
theorem Tv:Ay prog 42=true:=by kernel_rfl
theorem UA:Ay prog 43=true:=by kernel_rfl
theorem Oo:Ay prog 44=true:=by kernel_rfl
theorem Tj:Ay prog 45=true:=by kernel_rfl
theorem Xw:Ay prog 46=true:=by kernel_rfl
theorem NO:Ay prog 47=true:=by kernel_rfl
theorem Tx:Ay prog 48=true:=by kernel_rfl
theorem YO:Ay prog 49=true:=by kernel_rfl
theorem bD:Ay prog 5=true:=by kernel_rfl
theorem Xq:Ay prog 50=true:=by kernel_rfl
theorem Wm:Ay prog 51=true:=by kernel_rfl
theorem FP:Ay prog 52=true:=by kernel_rfl
theorem UD:Ay prog 53=true:=by kernel_rfl
theorem Xd:Ay prog 54=true:=by kernel_rfl
theorem XJ:Ay prog 55=true:=by kernel_rfl
theorem YX:Ay prog 56=true:=by kernel_rfl
theorem XB:Ay prog 57=true:=by kernel_rfl
theorem XD:Ay prog 58=true:=by kernel_rfl
theorem Xt:Ay prog 59=true:=by kernel_rfl
theorem Wg:Ay prog 60=true:=by kernel_rfl
theorem OP:Ay prog 61=true:=by kernel_rfl
theorem Mz:Ay prog 62=true:=by kernel_rfl
theorem WD:Ay prog 63=true:=by kernel_rfl
theorem Wt:Ay prog 64=true:=by kernel_rfl
theorem UG:Ay prog 65=true:=by kernel_rfl
theorem NS:Ay prog 66=true:=by kernel_rfl
theorem UI:Ay prog 67=true:=by kernel_rfl
theorem XO:Ay prog 68=true:=by kernel_rfl
theorem WR:Ay prog 69=true:=by kernel_rfl
theorem Qz:Ay prog 70=true:=by kernel_rfl
theorem Ty:Ay prog 71=true:=by kernel_rfl
theorem Vy:Ay prog 72=true:=by kernel_rfl
theorem YR:Ay prog 73=true:=by kernel_rfl
theorem XF:Ay prog 74=true:=by kernel_rfl
theorem Tp:Ay prog 75=true:=by kernel_rfl
theorem Lw:Ay prog 76=true:=by kernel_rfl
theorem YB:Ay prog 77=true:=by kernel_rfl
theorem YQ:Ay prog 78=true:=by kernel_rfl
theorem Xk:Ay prog 79=true:=by kernel_rfl
theorem YY:Ay prog 80=true:=by kernel_rfl
theorem XL:Ay prog 81=true:=by kernel_rfl
theorem PD:Ay prog 82=true:=by kernel_rfl
theorem Xm:Ay prog 83=true:=by kernel_rfl
theorem YV:Ay prog 84=true:=by kernel_rfl
theorem Rl:Ay prog 85=true:=by kernel_rfl
theorem WT:Ay prog 86=true:=by kernel_rfl
theorem LP:Ay prog 87=true:=by kernel_rfl
theorem WS:Ay prog 88=true:=by kernel_rfl
theorem Tz:Ay prog 89=true:=by kernel_rfl
theorem Wh:Ay prog 90=true:=by kernel_rfl
theorem Tk:Ay prog 91=true:=by kernel_rfl
theorem Tq:Ay prog 92=true:=by kernel_rfl
theorem Xz:Ay prog 93=true:=by kernel_rfl
theorem UJ:Ay prog 94=true:=by kernel_rfl
theorem XU:Ay prog 95=true:=by kernel_rfl
theorem RX:Ay prog 96=true:=by kernel_rfl
theorem Ww:Ay prog 97=true:=by kernel_rfl
theorem Xl:Ay prog 98=true:=by kernel_rfl
theorem Ms:Ay prog 99=true:=by kernel_rfl
theorem Il:Cd prog 110=some ([.string ByteArray.empty, .i 0, .i 0],3,32):=by kernel_rfl
theorem Nd:Cd prog 134=some ([.slice none 0 0, .slice none 0 0, .slice none 0 0, .slice none 0 0],4,96):=by kernel_rfl
theorem LD:Cd prog 163=some ([.i 0, .i 0],2,16):=by kernel_rfl
theorem Ue:Cd prog 193=some ([.slice none 0 0, .slice none 0 0, .slice none 0 0],3,72):=by kernel_rfl
theorem BZ:Cd prog 2=some ([.i 0],1,8):=by kernel_rfl
theorem aN:Cd prog 3=some ([.i 0],1,8):=by kernel_rfl
theorem OU:Cd prog 35=some ([.slice none 0 0],1,24):=by kernel_rfl
theorem PZ:Cd prog 4=some ([.bool false],1,1):=by kernel_rfl
theorem Lf:Cd prog 46=some ([.i 0, .i 0, .i 0, .i 0],4,32):=by kernel_rfl
theorem Ur:Cd prog 5=some ([.int .u8 0],1,1):=by kernel_rfl
theorem XA:Cd prog 52=some ([.string ByteArray.empty, .i 0, .slice none 0 0, .slice none 0 0, .slice none 0 0, .i 0, .i 0],7,112):=by kernel_rfl
theorem SG:Cd prog 54=some ([.string ByteArray.empty, .i 0, .slice none 0 0],3,48):=by kernel_rfl
theorem NI:Cd prog 63=some ([.i 0, .i 0, .i 0, .bool false],4,32):=by kernel_rfl
theorem OW:Cd prog 72=some ([.i 0, .i 0, .i 0, .bool false],4,32):=by kernel_rfl
theorem Jy:Cd prog 84=some ([.i 0, .i 0, .i 0, .i 0],4,32):=by kernel_rfl
theorem Lp:Cd prog 87=some ([.i 0, .i 0, .i 0, .i 0, .slice none 0 0, .slice none 0 0],6,80):=by kernel_rfl
theorem Fq:Cd prog 9=some ([.string ByteArray.empty],1,16):=by kernel_rfl
theorem Li:Cd prog 93=some ([.string ByteArray.empty, .i 0, .i 0, .bool false],4,40):=by kernel_rfl
theorem Vh:CT prog 106=some [(0,1),(1,1),(2,1)]:=by kernel_rfl
theorem LG:CT prog 110=some [(0,1),(1,1),(2,1)]:=by kernel_rfl
theorem Ut:CT prog 117=some [(0,1),(1,1)]:=by kernel_rfl
theorem SH:CT prog 134=some [(0,1),(1,1),(2,1),(3,1)]:=by kernel_rfl
theorem ET:CT prog 163=some [(0,1),(1,1)]:=by kernel_rfl
theorem Uc:CT prog 193=some [(0,1),(1,1),(2,1)]:=by kernel_rfl
theorem Ru:CT prog 199=some [(0,1),(1,1)]:=by kernel_rfl
theorem WH:CT prog 26=some [(0,1)]:=by kernel_rfl
theorem Rn:CT prog 31=some [(0,1),(1,1),(2,1)]:=by kernel_rfl
theorem Wd:CT prog 34=some [(0,1),(1,3),(4,1)]:=by kernel_rfl
theorem Ts:CT prog 46=some [(0,1),(1,1),(2,1),(3,1)]:=by kernel_rfl
theorem UC:CT prog 52=some [(0,1),(1,1),(2,1),(3,1),(4,1),(5,1),(6,1)]:=by kernel_rfl
theorem Vx:CT prog 54=some [(0,1),(1,1),(2,1)]:=by kernel_rfl
theorem UK:CT prog 63=some [(0,1),(1,1),(2,1),(3,1)]:=by kernel_rfl
theorem Tl:CT prog 72=some [(0,1),(1,1),(2,1),(3,1)]:=by kernel_rfl
theorem WF:CT prog 77=some [(0,5),(5,1),(6,1),(7,1),(8,1),(9,1)]:=by kernel_rfl
theorem RO:CT prog 84=some [(0,1),(1,1),(2,1),(3,1)]:=by kernel_rfl
theorem UP:CT prog 87=some [(0,1),(1,1),(2,1),(3,1),(4,1),(5,1)]:=by kernel_rfl
theorem NE:CT prog 93=some [(0,1),(1,1),(2,1),(3,1)]:=by kernel_rfl
theorem Ve:DI prog 106=some [.slice none 0 0, .i 0, .i 0]:=by kernel_rfl
theorem HW:DI prog 110=some [.string ByteArray.empty, .i 0, .i 0]:=by kernel_rfl
theorem VE:DI prog 117=some [.pointer none, .slice none 0 0]:=by kernel_rfl
theorem Fl:DI prog 134=some [.slice none 0 0, .slice none 0 0, .slice none 0 0, .slice none 0 0]:=by kernel_rfl
theorem EE:DI prog 163=some [.i 0, .i 0]:=by kernel_rfl
theorem Nm:DI prog 193=some [.slice none 0 0, .slice none 0 0, .slice none 0 0]:=by kernel_rfl
theorem LL:DI prog 199=some [.i 0, .i 0]:=by kernel_rfl
theorem Oa:DI prog 26=some [.slice none 0 0]:=by kernel_rfl
theorem Ka:DI prog 31=some [.slice none 0 0, .slice none 0 0, .slice none 0 0]:=by kernel_rfl
theorem Ju:DI prog 34=some [.slice none 0 0, .slice none 0 0, .slice none 0 0, .slice none 0 0, .slice none 0 0]:=by kernel_rfl
theorem SA:DI prog 46=some [.i 0, .i 0, .i 0, .i 0]:=by kernel_rfl
theorem ER:DI prog 52=some [.string ByteArray.empty, .i 0, .slice none 0 0, .slice none 0 0, .slice none 0 0, .i 0, .i 0]:=by kernel_rfl
theorem JM:DI prog 54=some [.string ByteArray.empty, .i 0, .slice none 0 0]:=by kernel_rfl
theorem PE:DI prog 63=some [.i 0, .i 0, .i 0, .bool false]:=by kernel_rfl
theorem My:DI prog 72=some [.i 0, .i 0, .i 0, .bool false]:=by kernel_rfl
theorem Xn:DI prog 77=some [.slice none 0 0, .slice none 0 0, .slice none 0 0, .slice none 0 0, .slice none 0 0, .slice none 0 0, .slice none 0 0, .slice none 0 0, .slice none 0 0, .slice none 0 0]:=by kernel_rfl
theorem Mi:DI prog 84=some [.i 0, .i 0, .i 0, .i 0]:=by kernel_rfl
theorem IK:DI prog 87=some [.i 0, .i 0, .i 0, .i 0, .slice none 0 0, .slice none 0 0]:=by kernel_rfl
theorem Jv:DI prog 93=some [.string ByteArray.empty, .i 0, .i 0, .bool false]:=by kernel_rfl
def QD(n:Nat)(a0_s:ByteArray)(a1_cutset:ByteArray):Option ByteArray:=if a0_s.size<=9223372036854775807∧a1_cutset.size<4294967281∧(a1_cutset.data.toList.all fun b=>decide (b.toNat<128))=true then some ⟨(Lib.trimS a0_s.data.toList a1_cutset.data.toList).toArray⟩else none
theorem ZD{n:Nat}{a0_s:ByteArray}{a1_cutset:ByteArray}{r:ByteArray}{w:World}(hF:QD n a0_s a1_cutset=some r):
 Calls prog 97 [.string a0_s, .string a1_cutset].toArray w (Bg fun u w2=>u= .string r∧AH w w2):=by
 unfold QD at hF
 split at hF
 ·rename_i h
  obtain rfl:=Option.some.inj hF
  refine(strings_Trim_ascii a0_s a1_cutset w h.1 h.2.1 (fun j b hb=>of_decide_eq_true (List.all_eq_true.1 h.2.2 b (List.mem_of_getElem? hb)))).mono ?_
  rintro e w' ⟨rfl,hB⟩
  exact⟨_,rfl,rfl,hB⟩
 ·cases hF
def Vn(n:Nat)(a0_s:ByteArray)(a1_c:Int):Option Int:=some (Lib.indexByte a0_s.data.toList a1_c.toNat.toUInt8)
theorem bV{n:Nat}{a0_s:ByteArray}{a1_c:Int}{r:Int}{w:World}(hF:Vn n a0_s a1_c=some r):
 Calls prog 98 [.string a0_s, .int .u8 a1_c].toArray w (Bg fun u w2=>u= .i r∧AH w w2):=by
 obtain rfl:=Option.some.inj hF
 refine(strings_IndexByte a0_s a1_c w).mono ?_
 rintro e w' ⟨rfl,rfl⟩
 exact⟨_,rfl,rfl,AH.refl _⟩
def FS(a0:List ByteArray)(a1:ByteArray)(k0:Int->Option Int):Nat->Int->Option Int
 |0,_=>none
 |m+1,i5=>(bif decide (i5<(a0.length:Int))then((AO a0 i5).bind fun x6=>(bif (a1.toList==x6.toList)then(some i5)else(FS a0 a1 k0 m (wrap .i64 (i5+1)))))else(k0 i5))
def Sg(n:Nat)(a0:List ByteArray)(a1:ByteArray):Option Int:=(FS a0 a1 (fun i5=>(some (-1))) n 0)
theorem Yr{C:List ByteArray}{D:ByteArray}{r:Int}{F:Value}(hF:Sg n C D=some r)(hH:H<=w.heap.size)(G:AC Az w (Iv 0 H) C F):
 Calls prog 151 [F,.string D].toArray w (Bg fun u L=>u= .i r∧AH w L):=by
 refine AI func151 rfl ntmps151 ?_;have I:=AH.refl w;unfold Sg at hF;refine Rc 9 (Yl rfl (Br rfl underlying28 (G.oh hH I)) (Ro 4 ?_));refine WC.loopD (fun B a wl=>∃(A:Int),Kn 19 [(0,F),(1,.string D),(7,.i ((C.length:Int))),(8,.i A)] a∧AH w wl∧w.heap.size<=wl.heap.size∧FS C D (fun A=>(some (-1))) B A=some r) n ?_ ?_
 ·intro a hK;exact⟨0,hK.sub rfl,I,Nat.le_refl _,hF⟩
 ·rintro B a Q ⟨A,hK,E,O,hF⟩;revert a;change WC _ _ _ _ _ _
  cases B with
  |zero=>exact CH hF
  |succ B=>
   rw [FS.eq_2]at hF;refine Rc 6 (Wc rfl hF ?_ ?_)
   ·intro hF;refine Rc 15 ?_;have⟨R,K,hF⟩:=AD hF;refine Ye rfl (Bl rfl underlying28 OK (G.oh hH E) K) ?_;rintro _ ⟨M,P,_,rfl,N,rfl,J⟩;refine Yl rfl (BX 0 rfl Gj J rfl rfl) (Ro 3 (Wc rfl hF ?_ ?_))
    ·intro hF;refine Rc 12 ?_;cases An hF;exact Ne rfl rfl ⟨_,rfl,rfl,E⟩
    ·intro hF;refine Rc 8 ?_;intro a hK;exact⟨B,nr,(wrap .i64 (A+1)),hK.sub rfl,E,(by omega),hF⟩
   ·intro hF;refine Rc 11 ?_;cases An hF;exact Ne rfl rfl ⟨_,rfl,rfl,E⟩
def QN(n:Nat)(a0:List ByteArray)(a1:ByteArray):Option Bool:=((Sg n a0 a1).bind fun r3=>(some (decide (r3>=0))))
theorem Za{A:List ByteArray}{B:ByteArray}{r:Bool}{D:Value}(hF:QN n A B=some r)(hH:H<=w.heap.size)(E:AC Az w (Iv 0 H) A D):
 Calls prog 132 [D,.string B].toArray w (Bg fun u J=>u= .bool r∧AH w J):=by
 refine AI func132 rfl ntmps132 ?_;have C:=AH.refl w;unfold QN at hF;refine Rc 9 ?_;have⟨L,G,hF⟩:=AD hF;refine Ef rfl (Aw rfl VO (Yr G (by omega) (E.oh hH C):)) ?_;rintro _ M ⟨rfl,I⟩;have⟨F,K⟩:=Et C I;refine Ro 5 ?_;cases An hF;exact Ne rfl rfl ⟨_,rfl,rfl,F⟩
def Gp(a0:List Int)(k0:Int->Int->Option Int):Nat->Int->Int->Option Int
 |0,_,_=>none
 |m+1,i14,i15=>(bif decide (i15<(a0.length:Int))then((AO a0 i15).bind fun x16=>(Gp a0 k0 m (min i14 x16) (wrap .i64 (i15+1))))else(k0 i14 i15))
def Rq(n:Nat)(a0:List Int):Option Int:=(bif decide ((a0.length:Int)<1)then none else((AO a0 0).bind fun x3=>(Gp a0 (fun i14 i15=>(some i14)) n x3 1)))
theorem aX{F:List Int}{r:Int}{I:Value}(hF:Rq n F=some r)(hH:H<=w.heap.size)(D:AC (AJ .i64) w (Iv 0 H) F I):
 Calls prog 155 [I].toArray w (Bg fun u N=>u= .i r∧AH w N):=by
 refine AI func155 rfl ntmps155 ?_;have G:=AH.refl w;unfold Rq at hF;refine Rc 9 (Yl rfl (Br rfl underlying35 (D.oh hH G)) (Ro 3 (Wc rfl hF ?_ ?_)))
 ·intro hF;cases hF
 ·intro hF;refine Rc 5 ?_;have⟨P,M,hF⟩:=AD hF;refine Ye rfl (Bl rfl underlying35 BF (D.oh hH G) M) ?_;rintro _ ⟨R,W,_,rfl,S,rfl,K⟩;refine Yl rfl (BX 0 rfl Ac K rfl rfl) (Ro 10 ?_);refine WC.loopD (fun C a wl=>∃(A:Int) (B:Int),Kn 25 [(0,I),(3,.i A),(4,.i B)] a∧AH w wl∧w.heap.size<=wl.heap.size∧Gp F (fun A B=>(some A)) C A B=some r) n ?_ ?_
  ·intro a hK;exact⟨P,1,hK.sub rfl,G,Nat.le_refl _,hF⟩
  ·rintro C a X ⟨A,B,hK,E,U,hF⟩;revert a;change WC _ _ _ _ _ _
   cases C with
   |zero=>exact CH hF
   |succ C=>
    rw [Gp.eq_2]at hF;refine Rc 5 (Yl rfl (Br rfl underlying35 (D.oh hH E)) (Ro 3 (Wc rfl hF ?_ ?_)))
    ·intro hF;refine Rc 8 ?_;have⟨O,L,hF⟩:=AD hF;refine Ye rfl (Bl rfl underlying35 BF (D.oh hH E) L) ?_;rintro _ ⟨Q,V,_,rfl,T,rfl,J⟩;refine Yl rfl (BX 0 rfl Ac J rfl rfl) (Yl rfl (Mw rfl rfl rfl) (Ro 10 ?_));intro a hK;exact⟨C,nr,(min A O),(wrap .i64 (B+1)),hK.sub rfl,E,(by omega),hF⟩
    ·intro hF;refine Rc 12 ?_;cases An hF;exact Ne rfl rfl ⟨_,rfl,rfl,E⟩
def OC(n:Nat)(a0:List Int):Option (List Int):=((BV (([]:List Int)) a0 8).bind fun z15=>(some z15))
theorem Vz{B:List Int}{r:List Int}{K:Value}(hF:OC n B=some r)(hH:H<=w.heap.size)(C:AC (AJ .i64) w (Iv 0 H) B K):
 Calls prog 92 [K].toArray w (Bg fun u L=>∃J,u=J∧AB (AJ .i64) L w.heap.size (Iv 0 0) 2 r J∧AH w L):=by
 refine AI func92 rfl ntmps92 ?_;have A:=AH.refl w;unfold OC at hF;refine Rc 9 ?_
 rcases AC.nil_or (C.oh hH A)with ⟨rfl,hnil⟩|⟨p_,n_,c_,rfl⟩
 ·replace hF:(some (([]:List Int)))=some r:=(by simpa [hnil,BV] using hF);refine Yl rfl (Mk rfl underlying35 rfl rfl) (Ro 2 (WC.cond_t rfl (Rc 7 ?_)));cases An hF;exact Ne rfl rfl ⟨_,rfl,_,rfl,AB.nil _ _ _ _ _,A⟩
 ·refine Yl rfl (Mr rfl underlying35 rfl rfl) (Ro 2 (WC.cond_f rfl (Rc 4 ?_)));refine Ef rfl (AG (c:=(AJ .i64)) (xs:=([]:List Int)) (S:=(Iv 0 0)) (uss:=[]) (out:=[]) rfl underlying35 BZ rfl rfl (AM [] rfl rfl rfl) rfl rfl rfl rfl (Aa (uss:=[]) (show BO _ _ _ _ _ from trivial) rfl) (fun k h=>by have:=h.2;omega) rfl) ?_;rintro Y a ⟨Q,I,T,W,P,O⟩;have⟨E,U⟩:=Et A P;have D:=At I;clear I;refine Ro 1 ?_;have⟨b,M,hF⟩:=AD hF;refine Ef rfl (AX (c:=(AJ .i64)) rfl underlying35 BZ rfl rfl rfl rfl rfl O (by omega) (C.oh hH E) M) ?_;rintro X Z ⟨G,F⟩;have⟨N,V⟩:=Ge E F D (by omega);have R:=DR F G D (by omega) (by omega);refine Ro 4 ?_;cases An hF;exact Ne rfl rfl ⟨_,rfl,_,rfl,AB.base G (by omega),N⟩
end Go.Proofs.YtbcnjcjcdknhhaaGreatDoor
