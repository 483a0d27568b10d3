/- The walks: every function that FnWorstSlacks reaches computes the plain function that is typed beside it; no condition. -/
import Derived.Test.YthojemmmflaicadGreatDoorProg
import Derived.Test.YthojemmmflaicadGreatDoorDat
import Derived.Test.YthojemmmflaicadGreatDoorShelf
set_option linter.all false
set_option maxRecDepth 20000
set_option maxHeartbeats 40000000
namespace Go.Proofs.YthojemmmflaicadGreatDoor
open Go Go.RowKit Go.Eng Go.Proofs.Tryz
open Go.IntKind (wrap)
variable {n H:Nat} {w:World}
abbrev iX:=@underlying2
abbrev sM:=@underlying3
abbrev kV:=@underlying4
abbrev Yw:=@underlying5
abbrev Tk:=@underlying9
abbrev NZ:=@underlying22
abbrev Jl:=@underlying24
abbrev FP:=@underlying27
abbrev CD:=@underlying28
abbrev GL:=@underlying29
abbrev FO:=@underlying32
abbrev AZ:=@underlying37
abbrev II:=@underlying38
abbrev HS:=@underlying41
abbrev CO:=@underlying44
abbrev Cv:=@underlying45
abbrev Fg:=@underlying72
abbrev Dv:=@underlying105
abbrev DO:=@underlying113
abbrev Db:=@underlying114
abbrev IW:=@underlying119
abbrev Ji:=@underlying137
abbrev Jg:=@underlying141
abbrev Oc:=@underlying171
abbrev OC:=@underlying176
abbrev Yk:=@underlying178
abbrev ZD:=@underlying212
theorem Tryz.hm:Tryz.prog.follows .mixedOrders=true:=by kernel_rfl
theorem SD:Ch prog 108=some true:=by kernel_rfl
theorem Dr:Ch prog 113=some false:=by kernel_rfl
theorem FJ:Ch prog 114=some false:=by kernel_rfl
theorem CK:Ch prog 116=some true:=by kernel_rfl
theorem Km:Ch prog 118=some true:=by kernel_rfl
theorem Dy:Ch prog 119=some false:=by kernel_rfl
theorem Fo:Ch prog 121=some true:=by kernel_rfl
theorem SP:Ch prog 129=some true:=by kernel_rfl
theorem HA:Ch prog 135=some true:=by kernel_rfl
theorem VN:Ch prog 137=some false:=by kernel_rfl
theorem QA:Ch prog 140=some true:=by kernel_rfl
theorem aF:Ch prog 141=some false:=by kernel_rfl
theorem Ev:Ch prog 148=some true:=by kernel_rfl
theorem Ry:Ch prog 163=some true:=by kernel_rfl
theorem cR:Ch prog 178=some true:=by kernel_rfl
theorem QB:Ch prog 195=some true:=by kernel_rfl
theorem AV:Ch prog 2=some false:=by kernel_rfl
theorem Jx:Ch prog 200=some true:=by kernel_rfl
theorem Yf:Ch prog 22=some false:=by kernel_rfl
theorem GZ:Ch prog 24=some false:=by kernel_rfl
theorem KM:Ch prog 26=some true:=by kernel_rfl
theorem Fh:Ch prog 27=some false:=by kernel_rfl
theorem IP:Ch prog 28=some false:=by kernel_rfl
theorem GH:Ch prog 29=some false:=by kernel_rfl
theorem Tg:Ch prog 3=some false:=by kernel_rfl
theorem DL:Ch prog 31=some true:=by kernel_rfl
theorem EJ:Ch prog 32=some false:=by kernel_rfl
theorem Aw:Ch prog 34=some true:=by kernel_rfl
theorem DD:Ch prog 36=some true:=by kernel_rfl
theorem BB:Ch prog 37=some false:=by kernel_rfl
theorem DP:Ch prog 4=some false:=by kernel_rfl
theorem Er:Ch prog 44=some false:=by kernel_rfl
theorem DE:Ch prog 45=some false:=by kernel_rfl
theorem DN:Ch prog 47=some true:=by kernel_rfl
theorem gG:Ch prog 5=some false:=by kernel_rfl
theorem EK:Ch prog 52=some true:=by kernel_rfl
theorem Ce:Ch prog 63=some true:=by kernel_rfl
theorem QX:Ch prog 65=some true:=by kernel_rfl
theorem ZL:Ch prog 72=some false:=by kernel_rfl
theorem EY:Ch prog 9=some false:=by kernel_rfl
theorem Dq:BS prog 108=some 4:=by kernel_rfl
theorem Uh:BS prog 113=some 1:=by kernel_rfl
theorem Rv:BS prog 114=some 1:=by kernel_rfl
theorem BV:BS prog 116=some 7:=by kernel_rfl
theorem Cl:BS prog 118=some 3:=by kernel_rfl
theorem CM:BS prog 121=some 6:=by kernel_rfl
theorem Df:BS prog 129=some 5:=by kernel_rfl
theorem CC:BS prog 135=some 4:=by kernel_rfl
theorem HE:BS prog 140=some 4:=by kernel_rfl
theorem cO:BS prog 141=some 1:=by kernel_rfl
theorem Cr:BS prog 148=some 4:=by kernel_rfl
theorem EU:BS prog 163=some 3:=by kernel_rfl
theorem SF:BS prog 178=some 2:=by kernel_rfl
theorem De:BS prog 195=some 4:=by kernel_rfl
theorem BE:BS prog 2=some 1:=by kernel_rfl
theorem Fa:BS prog 200=some 3:=by kernel_rfl
theorem iS:BS prog 24=some 1:=by kernel_rfl
theorem Ha:BS prog 26=some 1:=by kernel_rfl
theorem gY:BS prog 29=some 1:=by kernel_rfl
theorem RA:BS prog 3=some 1:=by kernel_rfl
theorem Co:BS prog 31=some 3:=by kernel_rfl
theorem iW:BS prog 32=some 1:=by kernel_rfl
theorem An:BS prog 34=some 5:=by kernel_rfl
theorem Bj:BS prog 36=some 5:=by kernel_rfl
theorem Hl:BS prog 37=some 1:=by kernel_rfl
theorem DV:BS prog 4=some 1:=by kernel_rfl
theorem CJ:BS prog 47=some 3:=by kernel_rfl
theorem eX:BS prog 5=some 1:=by kernel_rfl
theorem CY:BS prog 52=some 2:=by kernel_rfl
theorem BA:BS prog 63=some 2:=by kernel_rfl
theorem EE:BS prog 65=some 3:=by kernel_rfl
theorem Yq:BS prog 72=some 1:=by kernel_rfl
theorem HN:BS prog 9=some 1:=by kernel_rfl
theorem PQ:YB prog 63 2=true:=by kernel_rfl
theorem HC:Ai prog 108 0=some 0:=by kernel_rfl
theorem OQ:Ai prog 108 1=some 1:=by kernel_rfl
theorem MS:Ai prog 108 2=some 2:=by kernel_rfl
theorem MT:Ai prog 108 3=some 3:=by kernel_rfl
theorem KQ:Ai prog 116 0=some 0:=by kernel_rfl
theorem RK:Ai prog 116 1=some 1:=by kernel_rfl
theorem CQ:Ai prog 116 2=some 2:=by kernel_rfl
theorem Cz:Ai prog 116 3=some 3:=by kernel_rfl
theorem Dj:Ai prog 116 4=some 4:=by kernel_rfl
theorem Qc:Ai prog 116 5=some 5:=by kernel_rfl
theorem Qg:Ai prog 116 6=some 6:=by kernel_rfl
theorem RE:Ai prog 118 0=some 0:=by kernel_rfl
theorem ET:Ai prog 118 1=some 1:=by kernel_rfl
theorem CR:Ai prog 118 2=some 2:=by kernel_rfl
theorem Dm:Ai prog 121 0=some 0:=by kernel_rfl
theorem DW:Ai prog 121 1=some 1:=by kernel_rfl
theorem Cb:Ai prog 121 2=some 2:=by kernel_rfl
theorem DU:Ai prog 121 3=some 3:=by kernel_rfl
theorem FD:Ai prog 121 4=some 4:=by kernel_rfl
theorem FC:Ai prog 121 5=some 5:=by kernel_rfl
theorem IH:Ai prog 129 0=some 0:=by kernel_rfl
theorem HJ:Ai prog 129 1=some 1:=by kernel_rfl
theorem MY:Ai prog 129 2=some 3:=by kernel_rfl
theorem Dl:Ai prog 135 0=some 0:=by kernel_rfl
theorem FA:Ai prog 135 1=some 1:=by kernel_rfl
theorem GO:Ai prog 135 2=some 2:=by kernel_rfl
theorem DI:Ai prog 135 3=some 3:=by kernel_rfl
theorem Qx:Ai prog 140 0=some 0:=by kernel_rfl
theorem WV:Ai prog 140 1=some 1:=by kernel_rfl
theorem KF:Ai prog 140 2=some 2:=by kernel_rfl
theorem Nw:Ai prog 140 3=some 3:=by kernel_rfl
theorem Qm:Ai prog 143 1=some 5:=by kernel_rfl
theorem Mk:Ai prog 143 2=some 6:=by kernel_rfl
theorem QY:Ai prog 143 3=some 7:=by kernel_rfl
theorem RJ:Ai prog 143 4=some 8:=by kernel_rfl
theorem FY:Ai prog 148 0=some 0:=by kernel_rfl
theorem EL:Ai prog 148 1=some 1:=by kernel_rfl
theorem KX:Ai prog 148 2=some 2:=by kernel_rfl
theorem OM:Ai prog 148 3=some 3:=by kernel_rfl
theorem Qu:Ai prog 163 0=some 0:=by kernel_rfl
theorem GK:Ai prog 163 1=some 1:=by kernel_rfl
theorem IT:Ai prog 163 2=some 2:=by kernel_rfl
theorem MO:Ai prog 195 0=some 0:=by kernel_rfl
theorem MZ:Ai prog 195 1=some 1:=by kernel_rfl
theorem IG:Ai prog 195 2=some 2:=by kernel_rfl
theorem Dx:Ai prog 195 3=some 3:=by kernel_rfl
theorem KZ:Ai prog 200 0=some 0:=by kernel_rfl
theorem IX:Ai prog 200 1=some 1:=by kernel_rfl
theorem DT:Ai prog 200 2=some 2:=by kernel_rfl
theorem Dn:Ai prog 26 0=some 0:=by kernel_rfl
theorem DY:Ai prog 31 0=some 0:=by kernel_rfl
theorem Ei:Ai prog 31 1=some 1:=by kernel_rfl
theorem Da:Ai prog 31 2=some 2:=by kernel_rfl
theorem JI:Ai prog 34 0=some 0:=by kernel_rfl
theorem Cx:Ai prog 34 1=some 1:=by kernel_rfl
theorem CZ:Ai prog 34 2=some 4:=by kernel_rfl
theorem SY:Ai prog 36 0=some 0:=by kernel_rfl
theorem MV:Ai prog 36 1=some 1:=by kernel_rfl
theorem Mg:Ai prog 36 2=some 2:=by kernel_rfl
theorem MQ:Ai prog 36 3=some 3:=by kernel_rfl
theorem ML:Ai prog 36 4=some 4:=by kernel_rfl
theorem Ee:Ai prog 47 0=some 0:=by kernel_rfl
theorem Em:Ai prog 47 1=some 1:=by kernel_rfl
theorem Gt:Ai prog 47 2=some 2:=by kernel_rfl
theorem Gc:Ai prog 52 0=some 0:=by kernel_rfl
theorem Ek:Ai prog 52 1=some 1:=by kernel_rfl
theorem Bp:Ai prog 63 0=some 0:=by kernel_rfl
theorem Bq:Ai prog 63 1=some 1:=by kernel_rfl
theorem FV:Ai prog 65 0=some 0:=by kernel_rfl
theorem JP:Ai prog 65 1=some 1:=by kernel_rfl
theorem Si:Ai prog 98 0=some 0:=by kernel_rfl
theorem Ng:Ai prog 98 1=some 1:=by kernel_rfl
theorem Hm:Ai prog 98 2=some 2:=by kernel_rfl
theorem eZ:As prog 10=true:=by kernel_rfl
theorem bC:As prog 100=true:=by kernel_rfl
theorem ZY:As prog 101=true:=by kernel_rfl
theorem Zv:As prog 102=true:=by kernel_rfl
theorem Mw:As prog 103=true:=by kernel_rfl
theorem bI:As prog 104=true:=by kernel_rfl
theorem aG:As prog 105=true:=by kernel_rfl
theorem Zp:As prog 106=true:=by kernel_rfl
theorem bT:As prog 107=true:=by kernel_rfl
theorem Zl:As prog 108=true:=by kernel_rfl
theorem Pt:As prog 109=true:=by kernel_rfl
theorem gR:As prog 11=true:=by kernel_rfl
theorem MF:As prog 110=true:=by kernel_rfl
theorem Li:As prog 111=true:=by kernel_rfl
theorem RY:As prog 112=true:=by kernel_rfl
theorem Wj:As prog 113=true:=by kernel_rfl
theorem bD:As prog 114=true:=by kernel_rfl
theorem OR:As prog 115=true:=by kernel_rfl
theorem Rp:As prog 116=true:=by kernel_rfl
theorem OJ:As prog 117=true:=by kernel_rfl
theorem cA:As prog 118=true:=by kernel_rfl
theorem UA:As prog 119=true:=by kernel_rfl
theorem eW:As prog 12=true:=by kernel_rfl
theorem aW:As prog 120=true:=by kernel_rfl
theorem ZT:As prog 121=true:=by kernel_rfl
theorem bY:As prog 122=true:=by kernel_rfl
theorem OZ:As prog 123=true:=by kernel_rfl
theorem ZV:As prog 124=true:=by kernel_rfl
theorem US:As prog 125=true:=by kernel_rfl
theorem bZ:As prog 126=true:=by kernel_rfl
theorem Zq:As prog 127=true:=by kernel_rfl
theorem bW:As prog 128=true:=by kernel_rfl
theorem Zm:As prog 129=true:=by kernel_rfl
theorem Yj:As prog 13=true:=by kernel_rfl
theorem VM:As prog 130=true:=by kernel_rfl
theorem WS:As prog 131=true:=by kernel_rfl
theorem Zh:As prog 132=true:=by kernel_rfl
theorem Ub:As prog 133=true:=by kernel_rfl
theorem Np:As prog 134=true:=by kernel_rfl
theorem Uk:As prog 135=true:=by kernel_rfl
theorem aQ:As prog 136=true:=by kernel_rfl
theorem WX:As prog 137=true:=by kernel_rfl
theorem aK:As prog 138=true:=by kernel_rfl
theorem OP:As prog 139=true:=by kernel_rfl
theorem fN:As prog 14=true:=by kernel_rfl
theorem cG:As prog 140=true:=by kernel_rfl
theorem bB:As prog 141=true:=by kernel_rfl
theorem bX:As prog 142=true:=by kernel_rfl
theorem Um:As prog 143=true:=by kernel_rfl
theorem bM:As prog 144=true:=by kernel_rfl
theorem bV:As prog 145=true:=by kernel_rfl
theorem aS:As prog 146=true:=by kernel_rfl
theorem aD:As prog 147=true:=by kernel_rfl
theorem WY:As prog 148=true:=by kernel_rfl
theorem Tv:As prog 149=true:=by kernel_rfl
theorem iR:As prog 15=true:=by kernel_rfl
theorem Ur:As prog 150=true:=by kernel_rfl
theorem UQ:As prog 151=true:=by kernel_rfl
theorem cN:As prog 152=true:=by kernel_rfl
theorem Rk:As prog 153=true:=by kernel_rfl
theorem Hu:As prog 154=true:=by kernel_rfl
theorem Za:As prog 155=true:=by kernel_rfl
theorem bK:As prog 156=true:=by kernel_rfl
theorem Ux:As prog 157=true:=by kernel_rfl
theorem Zc:As prog 158=true:=by kernel_rfl
theorem Vl:As prog 159=true:=by kernel_rfl
theorem Yy:As prog 16=true:=by kernel_rfl
theorem aJ:As prog 160=true:=by kernel_rfl
theorem RW:As prog 161=true:=by kernel_rfl
theorem NI:As prog 162=true:=by kernel_rfl
theorem Zn:As prog 163=true:=by kernel_rfl
theorem cK:As prog 164=true:=by kernel_rfl
theorem Vt:As prog 165=true:=by kernel_rfl
theorem cU:As prog 166=true:=by kernel_rfl
theorem gJ:As prog 17=true:=by kernel_rfl
theorem bF:As prog 175=true:=by kernel_rfl
theorem RU:As prog 176=true:=by kernel_rfl
theorem aN:As prog 177=true:=by kernel_rfl
theorem WN:As prog 178=true:=by kernel_rfl
theorem VR:As prog 179=true:=by kernel_rfl
theorem Yn:As prog 18=true:=by kernel_rfl
theorem Zi:As prog 180=true:=by kernel_rfl
theorem WG:As prog 181=true:=by kernel_rfl
theorem aO:As prog 182=true:=by kernel_rfl
theorem cB:As prog 188=true:=by kernel_rfl
theorem ZW:As prog 189=true:=by kernel_rfl
theorem eC:As prog 19=true:=by kernel_rfl
theorem Zr:As prog 190=true:=by kernel_rfl
theorem bU:As prog 191=true:=by kernel_rfl
theorem Zo:As prog 192=true:=by kernel_rfl
theorem aZ:As prog 193=true:=by kernel_rfl
theorem Wh:As prog 194=true:=by kernel_rfl
theorem bS:As prog 198=true:=by kernel_rfl
theorem VH:As prog 199=true:=by kernel_rfl
theorem jM:As prog 20=true:=by kernel_rfl
theorem bA:As prog 203=true:=by kernel_rfl
theorem PV:As prog 21=true:=by kernel_rfl
theorem Wm:As prog 22=true:=by kernel_rfl
theorem RI:As prog 23=true:=by kernel_rfl
theorem LS:As prog 24=true:=by kernel_rfl
theorem Yz:As prog 25=true:=by kernel_rfl
theorem Ya:As prog 26=true:=by kernel_rfl
theorem Yr:As prog 27=true:=by kernel_rfl
theorem jE:As prog 28=true:=by kernel_rfl
theorem iT:As prog 29=true:=by kernel_rfl
theorem Fi:As prog 30=true:=by kernel_rfl
theorem dW:As prog 31=true:=by kernel_rfl
theorem UM:As prog 32=true:=by kernel_rfl
theorem VG:As prog 33=true:=by kernel_rfl
theorem PW:As prog 34=true:=by kernel_rfl
theorem ZJ:As prog 35=true:=by kernel_rfl
theorem fG:As prog 36=true:=by kernel_rfl
theorem iP:As prog 37=true:=by kernel_rfl
theorem iG:As prog 38=true:=by kernel_rfl
theorem UN:As prog 39=true:=by kernel_rfl
theorem pJ:As prog 4=true:=by kernel_rfl
theorem RC:As prog 40=true:=by kernel_rfl
theorem Uq:As prog 41=true:=by kernel_rfl
theorem Ys:As prog 42=true:=by kernel_rfl
theorem fR:As prog 43=true:=by kernel_rfl
theorem BG:As prog 44=true:=by kernel_rfl
theorem PE:As prog 45=true:=by kernel_rfl
theorem ZH:As prog 46=true:=by kernel_rfl
theorem ZM:As prog 47=true:=by kernel_rfl
theorem Sr:As prog 48=true:=by kernel_rfl
theorem fC:As prog 49=true:=by kernel_rfl
theorem mX:As prog 5=true:=by kernel_rfl
theorem LN:As prog 50=true:=by kernel_rfl
theorem Yu:As prog 51=true:=by kernel_rfl
theorem Ue:As prog 52=true:=by kernel_rfl
theorem fE:As prog 53=true:=by kernel_rfl
theorem Ym:As prog 54=true:=by kernel_rfl
theorem gP:As prog 55=true:=by kernel_rfl
theorem Yb:As prog 56=true:=by kernel_rfl
theorem iH:As prog 57=true:=by kernel_rfl
theorem SQ:As prog 58=true:=by kernel_rfl
theorem Qv:As prog 59=true:=by kernel_rfl
theorem nL:As prog 6=true:=by kernel_rfl
theorem gC:As prog 60=true:=by kernel_rfl
theorem eO:As prog 61=true:=by kernel_rfl
theorem Tt:As prog 62=true:=by kernel_rfl
theorem Uz:As prog 63=true:=by kernel_rfl
theorem dY:As prog 64=true:=by kernel_rfl
theorem iC:As prog 65=true:=by kernel_rfl
theorem EF:As prog 66=true:=by kernel_rfl
theorem dV:As prog 67=true:=by kernel_rfl
theorem Sq:As prog 68=true:=by kernel_rfl
theorem iE:As prog 69=true:=by kernel_rfl
theorem nD:As prog 7=true:=by kernel_rfl
theorem fL:As prog 70=true:=by kernel_rfl
theorem PN:As prog 71=true:=by kernel_rfl
theorem UE:As prog 72=true:=by kernel_rfl
theorem hY:As prog 73=true:=by kernel_rfl
theorem ZN:As prog 74=true:=by kernel_rfl
theorem ZA:As prog 75=true:=by kernel_rfl
theorem LX:As prog 76=true:=by kernel_rfl
theorem gE:As prog 77=true:=by kernel_rfl
theorem fZ:As prog 78=true:=by kernel_rfl
theorem WA:As prog 79=true:=by kernel_rfl
theorem gF:As prog 8=true:=by kernel_rfl
theorem iO:As prog 80=true:=by kernel_rfl
theorem gU:As prog 81=true:=by kernel_rfl
theorem Ga:As prog 82=true:=by kernel_rfl
theorem jA:As prog 83=true:=by kernel_rfl
theorem iY:As prog 84=true:=by kernel_rfl
theorem jC:As prog 85=true:=by kernel_rfl
theorem jI:As prog 86=true:=by kernel_rfl
theorem PO:As prog 87=true:=by kernel_rfl
theorem Sh:As prog 88=true:=by kernel_rfl
theorem eG:As prog 89=true:=by kernel_rfl
theorem kQ:As prog 9=true:=by kernel_rfl
theorem Yc:As prog 90=true:=by kernel_rfl
theorem jB:As prog 91=true:=by kernel_rfl
theorem ZB:As prog 92=true:=by kernel_rfl
theorem gW:As prog 93=true:=by kernel_rfl
theorem dM:As prog 94=true:=by kernel_rfl
theorem Vc:As prog 95=true:=by kernel_rfl
theorem gT:As prog 96=true:=by kernel_rfl
theorem iK:As prog 97=true:=by kernel_rfl
theorem eY:As prog 98=true:=by kernel_rfl
theorem ZO:As prog 99=true:=by kernel_rfl
theorem OV:DK prog 108=some ([.i 0, .i 0, .i 0, .bool false],4,32):=by kernel_rfl
theorem aX:DK prog 116=some ([.string ByteArray.empty, .i 0, .slice none 0 0, .slice none 0 0, .slice none 0 0, .i 0, .i 0],7,112):=by kernel_rfl
theorem Rj:DK prog 118=some ([.string ByteArray.empty, .i 0, .slice none 0 0],3,48):=by kernel_rfl
theorem My:DK prog 121=some ([.i 0, .i 0, .i 0, .i 0, .slice none 0 0, .slice none 0 0],6,80):=by kernel_rfl
theorem Ra:DK prog 129=some ([.i 0, .i 0, .i 0, .i 0, .i 0],5,40):=by kernel_rfl
theorem SA:DK prog 135=some ([.slice none 0 0, .slice none 0 0, .slice none 0 0, .slice none 0 0],4,96):=by kernel_rfl
theorem Pk:DK prog 140=some ([.i 0, .i 0, .i 0, .bool false],4,32):=by kernel_rfl
theorem Jp:DK prog 148=some ([.i 0, .i 0, .i 0, .i 0],4,32):=by kernel_rfl
theorem MJ:DK prog 163=some ([.string ByteArray.empty, .i 0, .i 0],3,32):=by kernel_rfl
theorem Oj:DK prog 178=some ([.i 0, .i 0],2,16):=by kernel_rfl
theorem NF:DK prog 195=some ([.string ByteArray.empty, .i 0, .i 0, .bool false],4,40):=by kernel_rfl
theorem Bg:DK prog 2=some ([.i 0],1,8):=by kernel_rfl
theorem bO:DK prog 200=some ([.slice none 0 0, .slice none 0 0, .slice none 0 0],3,72):=by kernel_rfl
theorem nO:DK prog 3=some ([.i 0],1,8):=by kernel_rfl
theorem PB:DK prog 37=some ([.slice none 0 0],1,24):=by kernel_rfl
theorem Gg:DK prog 4=some ([.bool false],1,1):=by kernel_rfl
theorem aU:DK prog 5=some ([.int .u8 0],1,1):=by kernel_rfl
theorem ER:DK prog 63=some ([.i 0, .i 0],2,16):=by kernel_rfl
theorem UO:DK prog 65=some ([.i 0, .i 0, .i 0],3,24):=by kernel_rfl
theorem En:DK prog 9=some ([.string ByteArray.empty],1,16):=by kernel_rfl
theorem PM:∀(a0:Int) (a1:Int),Xt prog 63 [.i a0, .i a1]=true:=by intros;kernel_rfl
theorem Tx:Cd prog 108=some [(0,1),(1,1),(2,1),(3,1)]:=by kernel_rfl
theorem Vb:Cd prog 116=some [(0,1),(1,1),(2,1),(3,1),(4,1),(5,1),(6,1)]:=by kernel_rfl
theorem Zw:Cd prog 118=some [(0,1),(1,1),(2,1)]:=by kernel_rfl
theorem WI:Cd prog 121=some [(0,1),(1,1),(2,1),(3,1),(4,1),(5,1)]:=by kernel_rfl
theorem Pq:Cd prog 129=some [(0,1),(1,2),(3,2)]:=by kernel_rfl
theorem WQ:Cd prog 135=some [(0,1),(1,1),(2,1),(3,1)]:=by kernel_rfl
theorem WR:Cd prog 140=some [(0,1),(1,1),(2,1),(3,1)]:=by kernel_rfl
theorem cD:Cd prog 143=some [(0,5),(5,1),(6,1),(7,1),(8,1),(9,1)]:=by kernel_rfl
theorem Rr:Cd prog 148=some [(0,1),(1,1),(2,1),(3,1)]:=by kernel_rfl
theorem Nu:Cd prog 163=some [(0,1),(1,1),(2,1)]:=by kernel_rfl
theorem GW:Cd prog 178=some [(0,1),(1,1)]:=by kernel_rfl
theorem ON:Cd prog 195=some [(0,1),(1,1),(2,1),(3,1)]:=by kernel_rfl
theorem ZX:Cd prog 200=some [(0,1),(1,1),(2,1)]:=by kernel_rfl
theorem dU:Cd prog 26=some [(0,1)]:=by kernel_rfl
theorem Vv:Cd prog 31=some [(0,1),(1,1),(2,1)]:=by kernel_rfl
theorem fQ:Cd prog 34=some [(0,1),(1,3),(4,1)]:=by kernel_rfl
theorem FN:Cd prog 36=some [(0,1),(1,1),(2,1),(3,1),(4,1)]:=by kernel_rfl
theorem Mc:Cd prog 47=some [(0,1),(1,1),(2,1)]:=by kernel_rfl
theorem GR:Cd prog 52=some [(0,1),(1,1)]:=by kernel_rfl
theorem FE:Cd prog 63=some [(0,1),(1,1)]:=by kernel_rfl
theorem RB:Cd prog 65=some [(0,1),(1,2)]:=by kernel_rfl
theorem dS:Cd prog 98=some [(0,1),(1,1),(2,1)]:=by kernel_rfl
theorem PY:Dt prog 108=some [.i 0, .i 0, .i 0, .bool false]:=by kernel_rfl
theorem FI:Dt prog 116=some [.string ByteArray.empty, .i 0, .slice none 0 0, .slice none 0 0, .slice none 0 0, .i 0, .i 0]:=by kernel_rfl
theorem Lz:Dt prog 118=some [.string ByteArray.empty, .i 0, .slice none 0 0]:=by kernel_rfl
theorem Ir:Dt prog 121=some [.i 0, .i 0, .i 0, .i 0, .slice none 0 0, .slice none 0 0]:=by kernel_rfl
theorem Lu:Dt prog 129=some [.i 0, .i 0, .i 0, .i 0, .i 0]:=by kernel_rfl
theorem Gx:Dt prog 135=some [.slice none 0 0, .slice none 0 0, .slice none 0 0, .slice none 0 0]:=by kernel_rfl
theorem Od:Dt prog 140=some [.i 0, .i 0, .i 0, .bool false]:=by kernel_rfl
theorem bJ:Dt prog 143=some [.slice none 0 0, .slice none 0 0, .slice none 0 0, .slice none 0 0, .slice none 0 0, .slice none 0 0, .slice none 0 0, .slice none 0 0, .slice none 0 0, .slice none 0 0]:=by kernel_rfl
theorem Of:Dt prog 148=some [.i 0, .i 0, .i 0, .i 0]:=by kernel_rfl
theorem Ki:Dt prog 163=some [.string ByteArray.empty, .i 0, .i 0]:=by kernel_rfl
theorem Fw:Dt prog 178=some [.i 0, .i 0]:=by kernel_rfl
theorem KU:Dt prog 195=some [.string ByteArray.empty, .i 0, .i 0, .bool false]:=by kernel_rfl
theorem Rm:Dt prog 200=some [.slice none 0 0, .slice none 0 0, .slice none 0 0]:=by kernel_rfl
theorem Sn:Dt prog 26=some [.slice none 0 0]:=by kernel_rfl
theorem Nn:Dt prog 31=some [.slice none 0 0, .slice none 0 0, .slice none 0 0]:=by kernel_rfl
theorem Jh:Dt prog 34=some [.slice none 0 0, .slice none 0 0, .slice none 0 0, .slice none 0 0, .slice none 0 0]:=by kernel_rfl
theorem Cp:Dt prog 36=some [.string ByteArray.empty, .i 0, .i 0, .i 0, .i 0]:=by kernel_rfl
theorem GP:Dt prog 47=some [.slice none 0 0, .slice none 0 0, .slice none 0 0]:=by kernel_rfl
theorem Di:Dt prog 52=some [.slice none 0 0, .slice none 0 0]:=by kernel_rfl
theorem Bx:Dt prog 63=some [.i 0, .i 0]:=by kernel_rfl
theorem Me:Dt prog 65=some [.i 0, .i 0, .i 0]:=by kernel_rfl
theorem fJ:Dt prog 98=some [.slice none 0 0, .i 0, .i 0]:=by kernel_rfl
def Uy(n:Nat)(a0_s:ByteArray)(a1_cutset:ByteArray):Option ByteArray:=if a0_s.size<=9223372036854775807∧a1_cutset.size<4294967281∧(a1_cutset.data.toList.all fun b=>decide (b.toNat<128))=true then some ⟨(Lib.trimS a0_s.data.toList a1_cutset.data.toList).toArray⟩else none
theorem lN{n:Nat}{a0_s a1_cutset c:ByteArray}{w:World}(a:Uy n a0_s a1_cutset=some c):
 Calls prog 155 [.string a0_s, .string a1_cutset].toArray w (Do fun d e=>d= .string c∧AI w e):=by
 unfold Uy at a
 split at a
 ·rename_i b
  obtain rfl:=Option.some.inj a
  refine(strings_Trim_ascii a0_s a1_cutset w b.1 b.2.1 (fun g f hb=>of_decide_eq_true (List.all_eq_true.1 b.2.2 f (List.mem_of_getElem? hb)))).mono ?_
  rintro h w' ⟨rfl,hB⟩
  exact⟨_,z,z,hB⟩
 ·cases a
def Zj(n:Nat)(a0_s:ByteArray)(a1_c:Int):Option Int:=some (Lib.indexByte a0_s.data.toList a1_c.toNat.toUInt8)
theorem mC{n:Nat}{a0_s:ByteArray}{a1_c a:Int}{w:World}(b:Zj n a0_s a1_c=some a):
 Calls prog 156 [.string a0_s, .int .u8 a1_c].toArray w (Do fun c d=>c= .i a∧AI w d):=by
 obtain rfl:=Option.some.inj b
 refine(strings_IndexByte a0_s a1_c w).mono ?_
 rintro e w' ⟨rfl,rfl⟩
 exact⟨_,z,z,AI.refl _⟩
def Hp(a0:List ByteArray)(a1:ByteArray)(k0:Int->Option Int):Nat->Int->Option Int
 |0,_=>none
 |m+1,a=>cond (decide (a<(a0.length:Int))) ((AM a0 a).bind fun b=>cond (a1.toList==b.toList) (some a) (Hp a0 a1 k0 m (wrap .i64 (a+1)))) (k0 a)
def XL(n:Nat)(a0:List ByteArray)(a1:ByteArray):Option Int:=Hp a0 a1 (fun a=>some (-1)) n 0
theorem lE{f:List ByteArray}{g:ByteArray}{i:Int}{j:Value}(a:XL n f g=some i)(m:H<=w.heap.size)(k:Ag Au w H f j):
 Calls prog 163 [j,.string g].toArray w (BX (.i i) w):=by
 have l:=AI.refl w;unfold XL at a;refine AE func163 z ntmps163 (Rc 9 (Yl z (FQ z CD (k.oj l)) (Ro 4 ?_)));refine WC.loopD (fun b h wl=>∃c:Int,Kn 19 [(0,j),(1,.string g),(7,.i ((f.length:Int))),(8,.i c)] h∧AI w wl∧Hp f g (fun c=>(some (-1))) b c=some i) n ?_ ?_
 ·intro h d;exact⟨0,d.sub z,AI.refl _,a⟩
 ·rintro b h o ⟨c,d,e,a⟩;refine CX d ?_;rcases b with _|b;exact CW a;rw [Hp.eq_2]at a;have p:=e.size;refine Rc 6 (Wf a e ?_);intro a;refine Rc 15 (Il a (k.oj e) CD HN EY ?_);rintro q a _;refine Ro 3 (Wt a e ?_);intro a;refine Rc 8 ?_;intro h d;exact⟨b,nr,(wrap .i64 (c+1)),d.sub z,e,a⟩
def Up(n:Nat)(a0:List ByteArray)(a1:ByteArray):Option Bool:=(XL n a0 a1).bind fun a=>some (decide (a>=0))
theorem kZ{b:List ByteArray}{c:ByteArray}{d:Bool}{e:Value}(a:Up n b c=some d)(j:H<=w.heap.size)(g:Ag Au w H b e):
 Calls prog 147 [e,.string c].toArray w (BX (.bool d) w):=by
 have f:=AI.refl w;unfold Up at a;refine AE func147 z ntmps147 (Rc 9 (Cs a f Zn (fun _ h=>(lE h (by omega) (g.oj f):)) ?_));rintro k a l m ⟨i,o⟩;exact Ds a i
def Ij(a0:List Int)(k0:Int->Int->Option Int):Nat->Int->Int->Option Int
 |0,_,_=>none
 |m+1,b,a=>cond (decide (a<(a0.length:Int))) ((AM a0 a).bind fun c=>Ij a0 k0 m (min b c) (wrap .i64 (a+1))) (k0 b a)
def VB(n:Nat)(a0:List Int):Option Int:=cond (decide ((a0.length:Int)<1)) none ((AM a0 0).bind fun b=>Ij a0 (fun a c=>some a) n b 1)
theorem nE{i:List Int}{j:Int}{k:Value}(a:VB n i=some j)(p:H<=w.heap.size)(g:Ag (AH .i64) w H i k):
 Calls prog 191 [k].toArray w (BX (.i j) w):=by
 have l:=AI.refl w;unfold VB at a;refine AE func191 z ntmps191 (Rc 9 (Yl z (FQ z AZ (g.oj l)) (Ro 3 (Wc z a ?_ ?_))))
 ·intro a;cases a
 ·intro a;refine Rc 5 (Il a (g.oj l) AZ BE AV ?_);rintro m a _;refine Ro 10 (WC.loopD (fun c h wl=>∃b d:Int,Kn 25 [(0,k),(3,.i b),(4,.i d)] h∧AI w wl∧Ij i (fun b d=>(some b)) c b d=some j) n ?_ ?_)
  ·intro h e;exact⟨m,1,e.sub z,AI.refl _,a⟩
  ·rintro c h q ⟨b,d,e,f,a⟩;refine CX e ?_;rcases c with _|c;exact CW a;rw [Ij.eq_2]at a;have r:=f.size;refine Rc 5 (Yl z (FQ z AZ (g.oj f)) (Ro 3 (Wf a f ?_)));intro a;refine Rc 8 (Il a (g.oj f) AZ BE AV ?_);rintro o a _;refine Yl z (GN z z z) (Ro 10 ?_);intro h e;exact⟨c,nr,(min b o),(wrap .i64 (d+1)),e.sub z,f,a⟩
def XY(n:Nat)(a0:List Int):Option (List Int):=(Bw (([]:List Int)) a0 8).bind fun a=>some a
theorem pC{d b:List Int}{e:Value}(a:XY n d=some b)(s:H<=w.heap.size)(f:Ag (AH .i64) w H d e):
 Calls prog 105 [e].toArray w (Do fun o g=>∃h,o=h∧AB (AH .i64) g w.heap.size (Iv 0 0) 2 b h∧AI w g):=by
 have i:=AI.refl w;unfold XY at a;refine AE func105 z ntmps105 (Rc 9 ?_)
 rcases AD.nil_or (f.oj i)with ⟨rfl,hnil⟩|⟨p_,n_,c_,rfl⟩
 ·replace a:(some (([]:List Int)))=some b:=(by simpa [hnil,Bw] using a);refine Yl z (RD z AZ z z) (Ro 2 (WC.cond_t z (Rc 7 ?_)));cases BM a;exact Ne z z ⟨_,z,_,z,AB.nil _ _ _ _ _,i⟩
 ·refine Yl z (QT z AZ z z) (Ro 2 (WC.cond_f z (Rc 4 (Ef z (AY (AH .i64) (([]:List Int)) [] z AZ Bg z z trivial) ?_))));rintro t u ⟨v,j,x,y,c,p⟩;have A:=c.size;have k:=Ac j;clear j;have⟨B,q,a⟩:=AJ a;refine Ro 1 (Ef z (Ae (c:=(AH .i64)) z AZ Bg z z z z z p (by omega) (f.oj c) q) ?_);rintro C D ⟨l,m⟩;have⟨r,E⟩:=Ge c m k;have F:=EV m l k;cases BM a;exact Ro 4 (Ne z z ⟨_,z,_,z,AB.base l,r⟩)
end Go.Proofs.YthojemmmflaicadGreatDoor
