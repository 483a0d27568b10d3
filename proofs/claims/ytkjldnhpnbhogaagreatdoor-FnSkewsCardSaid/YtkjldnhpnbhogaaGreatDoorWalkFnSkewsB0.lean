/- The walks: every function that FnSkews reaches computes the plain function that is typed beside it; no condition. -/
import Derived.Test.YtkjldnhpnbhogaaGreatDoorProg
import Derived.Test.YtkjldnhpnbhogaaGreatDoorDat
import Derived.Test.YtkjldnhpnbhogaaGreatDoorShelf
set_option linter.all false
set_option maxRecDepth 20000
set_option maxHeartbeats 40000000
namespace Go.Proofs.YtkjldnhpnbhogaaGreatDoor
open Go Go.RowKit Go.Eng Go.Proofs.Tryz
open Go.IntKind (wrap)
variable {n H:Nat} {w:World}
abbrev aQ:=@underlying2
abbrev mM:=@underlying3
abbrev fF:=@underlying4
abbrev Ww:=@underlying5
abbrev SK:=@underlying9
abbrev MX:=@underlying22
abbrev JP:=@underlying24
abbrev FE:=@underlying27
abbrev CD:=@underlying28
abbrev Fv:=@underlying29
abbrev FD:=@underlying32
abbrev Cz:=@underlying35
abbrev EM:=@underlying36
abbrev AX:=@underlying39
abbrev Ht:=@underlying77
abbrev JL:=@underlying115
abbrev EB:=@underlying116
abbrev JK:=@underlying117
abbrev DM:=@underlying123
abbrev Dd:=@underlying124
abbrev Wx:=@underlying130
abbrev Eb:=@underlying179
abbrev Hm:=@underlying195
abbrev Nc:=@underlying258
abbrev Mk:=@underlying262
abbrev XF:=@underlying264
theorem Tryz.hm:Tryz.prog.follows .mixedOrders=true:=by kernel_rfl
theorem Sn:DN prog 115=some false:=by kernel_rfl
theorem TG:DN prog 116=some false:=by kernel_rfl
theorem ZO:DN prog 117=some false:=by kernel_rfl
theorem Dm:DN prog 123=some false:=by kernel_rfl
theorem Ey:DN prog 124=some false:=by kernel_rfl
theorem CN:DN prog 126=some true:=by kernel_rfl
theorem Jt:DN prog 128=some true:=by kernel_rfl
theorem OW:DN prog 173=some true:=by kernel_rfl
theorem Qd:DN prog 175=some true:=by kernel_rfl
theorem QU:DN prog 185=some true:=by kernel_rfl
theorem Dv:DN prog 195=some false:=by kernel_rfl
theorem Fg:DN prog 197=some true:=by kernel_rfl
theorem AU:DN prog 2=some false:=by kernel_rfl
theorem XD:DN prog 22=some false:=by kernel_rfl
theorem Gl:DN prog 221=some true:=by kernel_rfl
theorem FN:DN prog 226=some true:=by kernel_rfl
theorem Qq:DN prog 235=some true:=by kernel_rfl
theorem GI:DN prog 24=some false:=by kernel_rfl
theorem Jh:DN prog 242=some true:=by kernel_rfl
theorem Jl:DN prog 26=some true:=by kernel_rfl
theorem Yk:DN prog 264=some true:=by kernel_rfl
theorem FV:DN prog 27=some false:=by kernel_rfl
theorem OK:DN prog 271=some true:=by kernel_rfl
theorem IA:DN prog 28=some false:=by kernel_rfl
theorem Fz:DN prog 29=some false:=by kernel_rfl
theorem Ru:DN prog 3=some false:=by kernel_rfl
theorem DP:DN prog 31=some true:=by kernel_rfl
theorem EE:DN prog 32=some false:=by kernel_rfl
theorem BH:DN prog 34=some true:=by kernel_rfl
theorem GZ:DN prog 35=some false:=by kernel_rfl
theorem Dr:DN prog 36=some false:=by kernel_rfl
theorem DQ:DN prog 38=some true:=by kernel_rfl
theorem BF:DN prog 39=some false:=by kernel_rfl
theorem DU:DN prog 4=some false:=by kernel_rfl
theorem CR:DN prog 45=some true:=by kernel_rfl
theorem cY:DN prog 5=some false:=by kernel_rfl
theorem Lb:DN prog 52=some true:=by kernel_rfl
theorem DX:DN prog 76=some true:=by kernel_rfl
theorem ER:DN prog 9=some false:=by kernel_rfl
theorem TN:BX prog 116=some 1:=by kernel_rfl
theorem Xm:BX prog 117=some 1:=by kernel_rfl
theorem TO:BX prog 123=some 1:=by kernel_rfl
theorem Qp:BX prog 124=some 1:=by kernel_rfl
theorem BT:BX prog 126=some 7:=by kernel_rfl
theorem Cj:BX prog 128=some 3:=by kernel_rfl
theorem Gk:BX prog 173=some 4:=by kernel_rfl
theorem Df:BX prog 175=some 5:=by kernel_rfl
theorem EO:BX prog 185=some 4:=by kernel_rfl
theorem CM:BX prog 197=some 6:=by kernel_rfl
theorem BB:BX prog 2=some 1:=by kernel_rfl
theorem CC:BX prog 221=some 4:=by kernel_rfl
theorem DI:BX prog 226=some 4:=by kernel_rfl
theorem EU:BX prog 235=some 3:=by kernel_rfl
theorem dO:BX prog 24=some 1:=by kernel_rfl
theorem FI:BX prog 242=some 3:=by kernel_rfl
theorem HU:BX prog 26=some 1:=by kernel_rfl
theorem Qk:BX prog 264=some 2:=by kernel_rfl
theorem De:BX prog 271=some 4:=by kernel_rfl
theorem aO:BX prog 29=some 1:=by kernel_rfl
theorem Oy:BX prog 3=some 1:=by kernel_rfl
theorem Cp:BX prog 31=some 3:=by kernel_rfl
theorem cE:BX prog 32=some 1:=by kernel_rfl
theorem Ar:BX prog 34=some 5:=by kernel_rfl
theorem dD:BX prog 36=some 1:=by kernel_rfl
theorem Bs:BX prog 38=some 3:=by kernel_rfl
theorem HM:BX prog 39=some 1:=by kernel_rfl
theorem Dc:BX prog 4=some 1:=by kernel_rfl
theorem BD:BX prog 45=some 2:=by kernel_rfl
theorem aT:BX prog 5=some 1:=by kernel_rfl
theorem GK:BX prog 52=some 3:=by kernel_rfl
theorem Bp:BX prog 76=some 5:=by kernel_rfl
theorem Gf:BX prog 9=some 1:=by kernel_rfl
theorem Qv:WJ prog 45 2=true:=by kernel_rfl
theorem Oz:Am prog 119 1=some 5:=by kernel_rfl
theorem LS:Am prog 119 2=some 6:=by kernel_rfl
theorem PT:Am prog 119 3=some 7:=by kernel_rfl
theorem PQ:Am prog 119 4=some 8:=by kernel_rfl
theorem KA:Am prog 126 0=some 0:=by kernel_rfl
theorem PW:Am prog 126 1=some 1:=by kernel_rfl
theorem CQ:Am prog 126 2=some 2:=by kernel_rfl
theorem Cv:Am prog 126 3=some 3:=by kernel_rfl
theorem Dg:Am prog 126 4=some 4:=by kernel_rfl
theorem Pb:Am prog 126 5=some 5:=by kernel_rfl
theorem PC:Am prog 126 6=some 6:=by kernel_rfl
theorem PO:Am prog 128 0=some 0:=by kernel_rfl
theorem EV:Am prog 128 1=some 1:=by kernel_rfl
theorem CT:Am prog 128 2=some 2:=by kernel_rfl
theorem Ou:Am prog 165 0=some 0:=by kernel_rfl
theorem LV:Am prog 165 1=some 1:=by kernel_rfl
theorem GA:Am prog 165 2=some 2:=by kernel_rfl
theorem PV:Am prog 173 0=some 0:=by kernel_rfl
theorem So:Am prog 173 1=some 1:=by kernel_rfl
theorem Je:Am prog 173 2=some 2:=by kernel_rfl
theorem Mj:Am prog 173 3=some 3:=by kernel_rfl
theorem Ho:Am prog 175 0=some 0:=by kernel_rfl
theorem Dw:Am prog 175 1=some 1:=by kernel_rfl
theorem FP:Am prog 175 2=some 3:=by kernel_rfl
theorem Jp:Am prog 185 0=some 0:=by kernel_rfl
theorem PS:Am prog 185 1=some 1:=by kernel_rfl
theorem LP:Am prog 185 2=some 2:=by kernel_rfl
theorem NL:Am prog 185 3=some 3:=by kernel_rfl
theorem Dj:Am prog 197 0=some 0:=by kernel_rfl
theorem DZ:Am prog 197 1=some 1:=by kernel_rfl
theorem CX:Am prog 197 2=some 2:=by kernel_rfl
theorem DW:Am prog 197 3=some 3:=by kernel_rfl
theorem Ek:Am prog 197 4=some 4:=by kernel_rfl
theorem Eh:Am prog 197 5=some 5:=by kernel_rfl
theorem Di:Am prog 221 0=some 0:=by kernel_rfl
theorem Ej:Am prog 221 1=some 1:=by kernel_rfl
theorem Fu:Am prog 221 2=some 2:=by kernel_rfl
theorem DE:Am prog 221 3=some 3:=by kernel_rfl
theorem Fs:Am prog 226 0=some 0:=by kernel_rfl
theorem FF:Am prog 226 1=some 1:=by kernel_rfl
theorem Jj:Am prog 226 2=some 2:=by kernel_rfl
theorem Nh:Am prog 226 3=some 3:=by kernel_rfl
theorem Ot:Am prog 235 0=some 0:=by kernel_rfl
theorem Ft:Am prog 235 1=some 1:=by kernel_rfl
theorem Hp:Am prog 235 2=some 2:=by kernel_rfl
theorem Jz:Am prog 242 0=some 0:=by kernel_rfl
theorem Hl:Am prog 242 1=some 1:=by kernel_rfl
theorem DY:Am prog 242 2=some 2:=by kernel_rfl
theorem Dk:Am prog 26 0=some 0:=by kernel_rfl
theorem LZ:Am prog 271 0=some 0:=by kernel_rfl
theorem LU:Am prog 271 1=some 1:=by kernel_rfl
theorem IB:Am prog 271 2=some 2:=by kernel_rfl
theorem Dt:Am prog 271 3=some 3:=by kernel_rfl
theorem Da:Am prog 31 0=some 0:=by kernel_rfl
theorem EW:Am prog 31 1=some 1:=by kernel_rfl
theorem Db:Am prog 31 2=some 2:=by kernel_rfl
theorem IK:Am prog 34 0=some 0:=by kernel_rfl
theorem Cy:Am prog 34 1=some 1:=by kernel_rfl
theorem CW:Am prog 34 2=some 4:=by kernel_rfl
theorem EC:Am prog 38 0=some 0:=by kernel_rfl
theorem Dp:Am prog 38 1=some 1:=by kernel_rfl
theorem Ep:Am prog 38 2=some 2:=by kernel_rfl
theorem Bw:Am prog 45 0=some 0:=by kernel_rfl
theorem CA:Am prog 45 1=some 1:=by kernel_rfl
theorem Wo:Am prog 52 0=some 0:=by kernel_rfl
theorem WM:Am prog 52 1=some 1:=by kernel_rfl
theorem WU:Am prog 52 2=some 2:=by kernel_rfl
theorem RI:Am prog 76 0=some 0:=by kernel_rfl
theorem Li:Am prog 76 1=some 1:=by kernel_rfl
theorem Lc:Am prog 76 2=some 2:=by kernel_rfl
theorem Ld:Am prog 76 3=some 3:=by kernel_rfl
theorem Lj:Am prog 76 4=some 4:=by kernel_rfl
theorem Ue:BC prog 10=true:=by kernel_rfl
theorem Tl:BC prog 103=true:=by kernel_rfl
theorem TV:BC prog 105=true:=by kernel_rfl
theorem OY:BC prog 107=true:=by kernel_rfl
theorem aW:BC prog 11=true:=by kernel_rfl
theorem Xl:BC prog 120=true:=by kernel_rfl
theorem MA:BC prog 121=true:=by kernel_rfl
theorem SN:BC prog 122=true:=by kernel_rfl
theorem TC:BC prog 123=true:=by kernel_rfl
theorem OO:BC prog 124=true:=by kernel_rfl
theorem ZR:BC prog 125=true:=by kernel_rfl
theorem Yu:BC prog 126=true:=by kernel_rfl
theorem Si:BC prog 127=true:=by kernel_rfl
theorem ZA:BC prog 128=true:=by kernel_rfl
theorem Xv:BC prog 129=true:=by kernel_rfl
theorem YI:BC prog 130=true:=by kernel_rfl
theorem Xa:BC prog 131=true:=by kernel_rfl
theorem OL:BC prog 132=true:=by kernel_rfl
theorem Mo:BC prog 133=true:=by kernel_rfl
theorem Yd:BC prog 134=true:=by kernel_rfl
theorem Yj:BC prog 135=true:=by kernel_rfl
theorem QM:BC prog 136=true:=by kernel_rfl
theorem QF:BC prog 137=true:=by kernel_rfl
theorem ZG:BC prog 138=true:=by kernel_rfl
theorem YR:BC prog 139=true:=by kernel_rfl
theorem ZC:BC prog 140=true:=by kernel_rfl
theorem Xo:BC prog 141=true:=by kernel_rfl
theorem ZH:BC prog 142=true:=by kernel_rfl
theorem Lq:BC prog 143=true:=by kernel_rfl
theorem QW:BC prog 144=true:=by kernel_rfl
theorem Zd:BC prog 145=true:=by kernel_rfl
theorem Mh:BC prog 146=true:=by kernel_rfl
theorem Ze:BC prog 147=true:=by kernel_rfl
theorem Tp:BC prog 148=true:=by kernel_rfl
theorem Tt:BC prog 149=true:=by kernel_rfl
theorem Xd:BC prog 150=true:=by kernel_rfl
theorem SZ:BC prog 151=true:=by kernel_rfl
theorem MD:BC prog 152=true:=by kernel_rfl
theorem Un:BC prog 153=true:=by kernel_rfl
theorem TZ:BC prog 154=true:=by kernel_rfl
theorem SP:BC prog 155=true:=by kernel_rfl
theorem QI:BC prog 157=true:=by kernel_rfl
theorem ZJ:BC prog 158=true:=by kernel_rfl
theorem VF:BC prog 162=true:=by kernel_rfl
theorem XR:BC prog 164=true:=by kernel_rfl
theorem Xj:BC prog 165=true:=by kernel_rfl
theorem Xf:BC prog 166=true:=by kernel_rfl
theorem ZX:BC prog 167=true:=by kernel_rfl
theorem Ly:BC prog 168=true:=by kernel_rfl
theorem OT:BC prog 169=true:=by kernel_rfl
theorem YX:BC prog 170=true:=by kernel_rfl
theorem ZK:BC prog 171=true:=by kernel_rfl
theorem ZB:BC prog 172=true:=by kernel_rfl
theorem Yy:BC prog 173=true:=by kernel_rfl
theorem QQ:BC prog 174=true:=by kernel_rfl
theorem Yf:BC prog 175=true:=by kernel_rfl
theorem Yh:BC prog 176=true:=by kernel_rfl
theorem Yt:BC prog 177=true:=by kernel_rfl
theorem Uj:BC prog 178=true:=by kernel_rfl
theorem Zb:BC prog 179=true:=by kernel_rfl
theorem Za:BC prog 180=true:=by kernel_rfl
theorem XV:BC prog 181=true:=by kernel_rfl
theorem Xy:BC prog 182=true:=by kernel_rfl
theorem YD:BC prog 183=true:=by kernel_rfl
theorem Ys:BC prog 184=true:=by kernel_rfl
theorem ZS:BC prog 185=true:=by kernel_rfl
theorem Xk:BC prog 186=true:=by kernel_rfl
theorem Ki:BC prog 187=true:=by kernel_rfl
theorem Ku:BC prog 188=true:=by kernel_rfl
theorem Th:BC prog 189=true:=by kernel_rfl
theorem Uh:BC prog 190=true:=by kernel_rfl
theorem Ty:BC prog 191=true:=by kernel_rfl
theorem Tb:BC prog 196=true:=by kernel_rfl
theorem Ms:BC prog 197=true:=by kernel_rfl
theorem Nf:BC prog 198=true:=by kernel_rfl
theorem Qm:BC prog 199=true:=by kernel_rfl
theorem My:BC prog 200=true:=by kernel_rfl
theorem XT:BC prog 201=true:=by kernel_rfl
theorem Xi:BC prog 202=true:=by kernel_rfl
theorem Xs:BC prog 203=true:=by kernel_rfl
theorem Ya:BC prog 204=true:=by kernel_rfl
theorem Mr:BC prog 205=true:=by kernel_rfl
theorem YS:BC prog 206=true:=by kernel_rfl
theorem Yv:BC prog 207=true:=by kernel_rfl
theorem ZI:BC prog 208=true:=by kernel_rfl
theorem YZ:BC prog 209=true:=by kernel_rfl
theorem ZT:BC prog 210=true:=by kernel_rfl
theorem UK:BC prog 211=true:=by kernel_rfl
theorem UT:BC prog 212=true:=by kernel_rfl
theorem Yq:BC prog 213=true:=by kernel_rfl
theorem Xh:BC prog 214=true:=by kernel_rfl
theorem MF:BC prog 215=true:=by kernel_rfl
theorem ZE:BC prog 217=true:=by kernel_rfl
theorem NV:BC prog 218=true:=by kernel_rfl
theorem XP:BC prog 219=true:=by kernel_rfl
theorem YW:BC prog 220=true:=by kernel_rfl
theorem YU:BC prog 221=true:=by kernel_rfl
theorem TP:BC prog 222=true:=by kernel_rfl
theorem Xw:BC prog 223=true:=by kernel_rfl
theorem Xq:BC prog 224=true:=by kernel_rfl
theorem ZD:BC prog 225=true:=by kernel_rfl
theorem ZQ:BC prog 226=true:=by kernel_rfl
theorem SW:BC prog 227=true:=by kernel_rfl
theorem ZU:BC prog 228=true:=by kernel_rfl
theorem Sj:BC prog 229=true:=by kernel_rfl
theorem Yx:BC prog 230=true:=by kernel_rfl
theorem QE:BC prog 233=true:=by kernel_rfl
theorem HX:BC prog 234=true:=by kernel_rfl
theorem ZM:BC prog 235=true:=by kernel_rfl
theorem ZL:BC prog 236=true:=by kernel_rfl
theorem XU:BC prog 237=true:=by kernel_rfl
theorem YG:BC prog 238=true:=by kernel_rfl
theorem YB:BC prog 239=true:=by kernel_rfl
theorem TY:BC prog 240=true:=by kernel_rfl
theorem Tx:BC prog 242=true:=by kernel_rfl
theorem ZY:BC prog 243=true:=by kernel_rfl
theorem QR:BC prog 252=true:=by kernel_rfl
theorem Xx:BC prog 253=true:=by kernel_rfl
theorem Ux:BC prog 254=true:=by kernel_rfl
theorem YM:BC prog 255=true:=by kernel_rfl
theorem YT:BC prog 261=true:=by kernel_rfl
theorem Xn:BC prog 262=true:=by kernel_rfl
theorem Xt:BC prog 263=true:=by kernel_rfl
theorem YF:BC prog 264=true:=by kernel_rfl
theorem XW:BC prog 265=true:=by kernel_rfl
theorem YQ:BC prog 266=true:=by kernel_rfl
theorem Ud:BC prog 267=true:=by kernel_rfl
theorem YV:BC prog 271=true:=by kernel_rfl
theorem UF:BC prog 272=true:=by kernel_rfl
theorem YJ:BC prog 276=true:=by kernel_rfl
theorem dJ:BC prog 28=true:=by kernel_rfl
theorem bP:BC prog 36=true:=by kernel_rfl
theorem bX:BC prog 37=true:=by kernel_rfl
theorem BE:BC prog 38=true:=by kernel_rfl
theorem aK:BC prog 39=true:=by kernel_rfl
theorem dC:BC prog 40=true:=by kernel_rfl
theorem NG:BC prog 41=true:=by kernel_rfl
theorem XI:BC prog 42=true:=by kernel_rfl
theorem Wz:BC prog 43=true:=by kernel_rfl
theorem aB:BC prog 44=true:=by kernel_rfl
theorem ET:BC prog 45=true:=by kernel_rfl
theorem NW:BC prog 46=true:=by kernel_rfl
theorem VA:BC prog 47=true:=by kernel_rfl
theorem XH:BC prog 55=true:=by kernel_rfl
theorem cL:BC prog 74=true:=by kernel_rfl
theorem dW:BC prog 75=true:=by kernel_rfl
theorem Zs:BC prog 77=true:=by kernel_rfl
theorem PN:BC prog 78=true:=by kernel_rfl
theorem Su:BC prog 79=true:=by kernel_rfl
theorem fL:BC prog 8=true:=by kernel_rfl
theorem RQ:BC prog 80=true:=by kernel_rfl
theorem MQ:BC prog 81=true:=by kernel_rfl
theorem cU:BC prog 82=true:=by kernel_rfl
theorem bG:BC prog 83=true:=by kernel_rfl
theorem eA:BC prog 88=true:=by kernel_rfl
theorem dK:BC prog 89=true:=by kernel_rfl
theorem kU:BC prog 9=true:=by kernel_rfl
theorem Zu:BC prog 90=true:=by kernel_rfl
theorem dB:BC prog 91=true:=by kernel_rfl
theorem bS:BC prog 92=true:=by kernel_rfl
theorem XJ:BC prog 93=true:=by kernel_rfl
theorem bQ:BC prog 94=true:=by kernel_rfl
theorem Gp:BC prog 95=true:=by kernel_rfl
theorem cO:BC prog 96=true:=by kernel_rfl
theorem dZ:BC prog 97=true:=by kernel_rfl
theorem bB:BC prog 98=true:=by kernel_rfl
theorem LR:BC prog 99=true:=by kernel_rfl
theorem XN:DL prog 126=some ([.string ByteArray.empty, .i 0, .slice none 0 0, .slice none 0 0, .slice none 0 0, .i 0, .i 0],7,112):=by kernel_rfl
theorem Qg:DL prog 128=some ([.string ByteArray.empty, .i 0, .slice none 0 0],3,48):=by kernel_rfl
theorem Oi:DL prog 173=some ([.i 0, .i 0, .i 0, .bool false],4,32):=by kernel_rfl
theorem Qo:DL prog 175=some ([.i 0, .i 0, .i 0, .i 0, .i 0],5,40):=by kernel_rfl
theorem NN:DL prog 185=some ([.i 0, .i 0, .i 0, .bool false],4,32):=by kernel_rfl
theorem Lt:DL prog 197=some ([.i 0, .i 0, .i 0, .i 0, .slice none 0 0, .slice none 0 0],6,80):=by kernel_rfl
theorem BV:DL prog 2=some ([.i 0],1,8):=by kernel_rfl
theorem QB:DL prog 221=some ([.slice none 0 0, .slice none 0 0, .slice none 0 0, .slice none 0 0],4,96):=by kernel_rfl
theorem Jw:DL prog 226=some ([.i 0, .i 0, .i 0, .i 0],4,32):=by kernel_rfl
theorem Ko:DL prog 235=some ([.string ByteArray.empty, .i 0, .i 0],3,32):=by kernel_rfl
theorem XS:DL prog 242=some ([.slice none 0 0, .slice none 0 0, .slice none 0 0],3,72):=by kernel_rfl
theorem Mz:DL prog 264=some ([.i 0, .i 0],2,16):=by kernel_rfl
theorem ME:DL prog 271=some ([.string ByteArray.empty, .i 0, .i 0, .bool false],4,40):=by kernel_rfl
theorem iR:DL prog 3=some ([.i 0],1,8):=by kernel_rfl
theorem OC:DL prog 39=some ([.slice none 0 0],1,24):=by kernel_rfl
theorem MS:DL prog 4=some ([.bool false],1,1):=by kernel_rfl
theorem KR:DL prog 45=some ([.i 0, .i 0],2,16):=by kernel_rfl
theorem YK:DL prog 5=some ([.int .u8 0],1,1):=by kernel_rfl
theorem EY:DL prog 9=some ([.string ByteArray.empty],1,16):=by kernel_rfl
theorem RB:∀(a0:Int) (a1:Int),Vw prog 45 [.i a0, .i a1]=true:=by intros;kernel_rfl
theorem Yw:Cd prog 119=some [(0,5),(5,1),(6,1),(7,1),(8,1),(9,1)]:=by kernel_rfl
theorem Sw:Cd prog 126=some [(0,1),(1,1),(2,1),(3,1),(4,1),(5,1),(6,1)]:=by kernel_rfl
theorem YH:Cd prog 128=some [(0,1),(1,1),(2,1)]:=by kernel_rfl
theorem Xg:Cd prog 165=some [(0,1),(1,1),(2,1)]:=by kernel_rfl
theorem Td:Cd prog 173=some [(0,1),(1,1),(2,1),(3,1)]:=by kernel_rfl
theorem OR:Cd prog 175=some [(0,1),(1,2),(3,2)]:=by kernel_rfl
theorem SS:Cd prog 185=some [(0,1),(1,1),(2,1),(3,1)]:=by kernel_rfl
theorem UB:Cd prog 197=some [(0,1),(1,1),(2,1),(3,1),(4,1),(5,1)]:=by kernel_rfl
theorem Uk:Cd prog 221=some [(0,1),(1,1),(2,1),(3,1)]:=by kernel_rfl
theorem QV:Cd prog 226=some [(0,1),(1,1),(2,1),(3,1)]:=by kernel_rfl
theorem Mt:Cd prog 235=some [(0,1),(1,1),(2,1)]:=by kernel_rfl
theorem YP:Cd prog 242=some [(0,1),(1,1),(2,1)]:=by kernel_rfl
theorem dF:Cd prog 26=some [(0,1)]:=by kernel_rfl
theorem GE:Cd prog 264=some [(0,1),(1,1)]:=by kernel_rfl
theorem NK:Cd prog 271=some [(0,1),(1,1),(2,1),(3,1)]:=by kernel_rfl
theorem TQ:Cd prog 31=some [(0,1),(1,1),(2,1)]:=by kernel_rfl
theorem aA:Cd prog 34=some [(0,1),(1,3),(4,1)]:=by kernel_rfl
theorem LO:Cd prog 38=some [(0,1),(1,1),(2,1)]:=by kernel_rfl
theorem FX:Cd prog 45=some [(0,1),(1,1)]:=by kernel_rfl
theorem aN:Cd prog 52=some [(0,1),(1,1),(2,1)]:=by kernel_rfl
theorem FB:Cd prog 76=some [(0,1),(1,1),(2,1),(3,1),(4,1)]:=by kernel_rfl
theorem Yc:Du prog 119=some [.slice none 0 0, .slice none 0 0, .slice none 0 0, .slice none 0 0, .slice none 0 0, .slice none 0 0, .slice none 0 0, .slice none 0 0, .slice none 0 0, .slice none 0 0]:=by kernel_rfl
theorem Ex:Du prog 126=some [.string ByteArray.empty, .i 0, .slice none 0 0, .slice none 0 0, .slice none 0 0, .i 0, .i 0]:=by kernel_rfl
theorem Kw:Du prog 128=some [.string ByteArray.empty, .i 0, .slice none 0 0]:=by kernel_rfl
theorem Xz:Du prog 165=some [.slice none 0 0, .i 0, .i 0]:=by kernel_rfl
theorem NJ:Du prog 173=some [.i 0, .i 0, .i 0, .bool false]:=by kernel_rfl
theorem KD:Du prog 175=some [.i 0, .i 0, .i 0, .i 0, .i 0]:=by kernel_rfl
theorem Oc:Du prog 185=some [.i 0, .i 0, .i 0, .bool false]:=by kernel_rfl
theorem Ia:Du prog 197=some [.i 0, .i 0, .i 0, .i 0, .slice none 0 0, .slice none 0 0]:=by kernel_rfl
theorem Gi:Du prog 221=some [.slice none 0 0, .slice none 0 0, .slice none 0 0, .slice none 0 0]:=by kernel_rfl
theorem OM:Du prog 226=some [.i 0, .i 0, .i 0, .i 0]:=by kernel_rfl
theorem Ju:Du prog 235=some [.string ByteArray.empty, .i 0, .i 0]:=by kernel_rfl
theorem Qn:Du prog 242=some [.slice none 0 0, .slice none 0 0, .slice none 0 0]:=by kernel_rfl
theorem RM:Du prog 26=some [.slice none 0 0]:=by kernel_rfl
theorem Fb:Du prog 264=some [.i 0, .i 0]:=by kernel_rfl
theorem KB:Du prog 271=some [.string ByteArray.empty, .i 0, .i 0, .bool false]:=by kernel_rfl
theorem NF:Du prog 31=some [.slice none 0 0, .slice none 0 0, .slice none 0 0]:=by kernel_rfl
theorem JJ:Du prog 34=some [.slice none 0 0, .slice none 0 0, .slice none 0 0, .slice none 0 0, .slice none 0 0]:=by kernel_rfl
theorem Ec:Du prog 38=some [.slice none 0 0, .slice none 0 0, .slice none 0 0]:=by kernel_rfl
theorem gX:Du prog 4=some [.bool false]:=by kernel_rfl
theorem CU:Du prog 45=some [.i 0, .i 0]:=by kernel_rfl
theorem Oq:Du prog 52=some [.i 0, .i 0, .i 0]:=by kernel_rfl
theorem Cs:Du prog 76=some [.string ByteArray.empty, .i 0, .i 0, .i 0, .i 0]:=by kernel_rfl
def Sg(n:Nat)(a0_s:ByteArray)(a1_cutset:ByteArray):Option ByteArray:=if a0_s.size<=9223372036854775807∧a1_cutset.size<4294967281∧(a1_cutset.data.toList.all fun b=>decide (b.toNat<128))=true then some ⟨(Lib.trimS a0_s.data.toList a1_cutset.data.toList).toArray⟩else none
theorem gR{n:Nat}{a0_s a1_cutset c:ByteArray}{w:World}(a:Sg n a0_s a1_cutset=some c):
 Calls prog 235 [.string a0_s, .string a1_cutset].toArray w (Dy fun d e=>d= .string c∧AS w e):=by
 unfold Sg at a
 split at a
 ·rename_i b
  obtain rfl:=Option.some.inj a
  refine(strings_Trim_ascii a0_s a1_cutset w b.1 b.2.1 (fun g f hb=>of_decide_eq_true (List.all_eq_true.1 b.2.2 f (List.mem_of_getElem? hb)))).mono ?_
  rintro h w' ⟨rfl,hB⟩
  exact⟨_,z,z,hB⟩
 ·cases a
def XO(n:Nat)(a0_s:ByteArray)(a1_c:Int):Option Int:=some (Lib.indexByte a0_s.data.toList a1_c.toNat.toUInt8)
theorem gN{n:Nat}{a0_s:ByteArray}{a1_c a:Int}{w:World}(b:XO n a0_s a1_c=some a):
 Calls prog 236 [.string a0_s, .int .u8 a1_c].toArray w (Dy fun c d=>c= .i a∧AS w d):=by
 obtain rfl:=Option.some.inj b
 refine(strings_IndexByte a0_s a1_c w).mono ?_
 rintro e w' ⟨rfl,rfl⟩
 exact⟨_,z,z,AS.refl _⟩
def Gz(a0:List ByteArray)(a1:ByteArray)(k0:Int->Option Int):Nat->Int->Option Int
 |0,_=>none
 |m+1,a=>cond (decide (a<(a0.length:Int))) ((AL a0 a).bind fun b=>cond (a1.toList==b.toList) (some a) (Gz a0 a1 k0 m (wrap .i64 (a+1)))) (k0 a)
def Wl(n:Nat)(a0:List ByteArray)(a1:ByteArray):Option Int:=Gz a0 a1 (fun a=>some (-1)) n 0
theorem eZ{e:List ByteArray}{f:ByteArray}{i:Int}{j:Value}(a:Wl n e f=some i)(p:H<=w.heap.size)(k:AE Az w (Iv 0 H) e j):
 Calls prog 239 [j,.string f].toArray w (Bl (.i i) w):=by
 have l:=AS.refl w;unfold Wl at a;refine AF func239 z ntmps239 (Rc 9 (Yl z (CL z CD (k.oj l)) (Ro 4 ?_)));refine WC.loopD (fun b g wl=>∃c:Int,Kn 19 [(0,j),(1,.string f),(7,.i ((e.length:Int))),(8,.i c)] g∧AS w wl∧w.heap.size<=wl.heap.size∧Gz e f (fun c=>(some (-1))) b c=some i) n ?_ ?_
 ·intro g d;exact⟨0,d.sub z,l,Nat.le_refl _,a⟩
 ·rintro b g q ⟨c,d,h,r,a⟩;refine Cc d ?_;rcases b with _|b;exact CZ a;rw [Gz.eq_2]at a;refine Rc 6 (Wc z a ?_ ?_)
  ·intro a;have⟨s,m,a⟩:=AB a;refine Rc 15 (Ye z (Bo z CD Gf (k.oj h) m) ?_);rintro _ ⟨t,u,_,rfl,v,rfl,o⟩;refine Yl z (BQ 0 z ER o z z) (Ro 3 (Wc z a ?_ ?_))
   ·intro a;cases Al a;exact Rc 12 (Bf z z h)
   ·intro a;refine Rc 8 ?_;intro g d;exact⟨b,nr,(wrap .i64 (c+1)),d.sub z,h,(by omega),a⟩
  ·intro a;cases Al a;exact Rc 11 (Bf z z h)
def Sd(n:Nat)(a0:List ByteArray)(a1:ByteArray):Option Bool:=(Wl n a0 a1).bind fun a=>some (decide (a>=0))
theorem kO{b:List ByteArray}{c:ByteArray}{d:Bool}{e:Value}(a:Sd n b c=some d)(k:H<=w.heap.size)(g:AE Az w (Iv 0 H) b e):
 Calls prog 226 [e,.string c].toArray w (Bl (.bool d) w):=by
 have f:=AS.refl w;unfold Sd at a;have⟨l,h,a⟩:=AB a;refine AF func226 z ntmps226 (Rc 9 (Ef z (An z YB (eZ h (by omega) (g.oj f):)) ?_));rintro _ m ⟨rfl,i⟩;have⟨j,o⟩:=Et f i;cases Al a;exact Ro 5 (Bf z z j)
def Io(a0:List Int)(k0:Int->Int->Option Int):Nat->Int->Int->Option Int
 |0,_,_=>none
 |m+1,b,a=>cond (decide (a<(a0.length:Int))) ((AL a0 a).bind fun c=>Io a0 k0 m (min b c) (wrap .i64 (a+1))) (k0 b a)
def TJ(n:Nat)(a0:List Int):Option Int:=cond (decide ((a0.length:Int)<1)) none ((AL a0 0).bind fun c=>Io a0 (fun a b=>some a) n c 1)
theorem gB{i:List Int}{j:Int}{k:Value}(a:TJ n i=some j)(t:H<=w.heap.size)(f:AE (AG .i64) w (Iv 0 H) i k):
 Calls prog 264 [k].toArray w (Bl (.i j) w):=by
 have l:=AS.refl w;unfold TJ at a;refine AF func264 z ntmps264 (Rc 9 (Yl z (CL z AX (f.oj l)) (Ro 3 (Wc z a ?_ ?_))))
 ·intro a;cases a
 ·intro a;have⟨m,o,a⟩:=AB a;refine Rc 5 (Ye z (Bo z AX BB (f.oj l) o) ?_);rintro _ ⟨u,v,_,rfl,x,rfl,p⟩;refine Yl z (BQ 0 z AU p z z) (Ro 10 ?_);refine WC.loopD (fun c g wl=>∃b d:Int,Kn 25 [(0,k),(3,.i b),(4,.i d)] g∧AS w wl∧w.heap.size<=wl.heap.size∧Io i (fun b d=>(some b)) c b d=some j) n ?_ ?_
  ·intro g e;exact⟨m,1,e.sub z,l,Nat.le_refl _,a⟩
  ·rintro c g y ⟨b,d,e,h,A,a⟩;refine Cc e ?_;rcases c with _|c;exact CZ a;rw [Io.eq_2]at a;refine Rc 5 (Yl z (CL z AX (f.oj h)) (Ro 3 (Wc z a ?_ ?_)))
   ·intro a;have⟨q,r,a⟩:=AB a;refine Rc 8 (Ye z (Bo z AX BB (f.oj h) r) ?_);rintro _ ⟨B,C,_,rfl,D,rfl,s⟩;refine Yl z (BQ 0 z AU s z z) (Yl z (GB z z z) (Ro 10 ?_));intro g e;exact⟨c,nr,(min b q),(wrap .i64 (d+1)),e.sub z,h,(by omega),a⟩
   ·intro a;cases Al a;exact Rc 12 (Bf z z h)
def WW(n:Nat)(a0:List Int):Option (List Int):=(Bk (([]:List Int)) a0 8).bind fun a=>some a
theorem iW{d b:List Int}{e:Value}(a:WW n d=some b)(t:H<=w.heap.size)(f:AE (AG .i64) w (Iv 0 H) d e):
 Calls prog 183 [e].toArray w (Dy fun o g=>∃h,o=h∧AC (AG .i64) g w.heap.size (Iv 0 0) 2 b h∧AS w g):=by
 have c:=AS.refl w;unfold WW at a;refine AF func183 z ntmps183 (Rc 9 ?_)
 rcases AE.nil_or (f.oj c)with ⟨rfl,hnil⟩|⟨p_,n_,c_,rfl⟩
 ·replace a:(some (([]:List Int)))=some b:=(by simpa [hnil,Bk] using a);refine Yl z (PJ z AX z z) (Ro 2 (WC.cond_t z (Rc 7 ?_)));cases Al a;exact Ne z z ⟨_,z,_,z,AC.nil _ _ _ _ _,c⟩
 ·refine Yl z (Ow z AX z z) (Ro 2 (WC.cond_f z (Rc 4 (Ef z (Aa (AG .i64) (([]:List Int)) [] z AX BV z z trivial) ?_))));rintro u v ⟨x,i,y,A,p,q⟩;have⟨j,B⟩:=Et c p;have k:=Ah i;clear i;have⟨C,r,a⟩:=AB a;refine Ro 1 (Ef z (Ac (c:=(AG .i64)) z AX BV z z z z z q (by omega) (f.oj j) r) ?_);rintro D E ⟨l,m⟩;have⟨s,F⟩:=Ge j m k;have G:=EN m l k;cases Al a;exact Ro 4 (Ne z z ⟨_,z,_,z,AC.base l (by omega),s⟩)
end Go.Proofs.YtkjldnhpnbhogaaGreatDoor
