/- The walks: every function that FnExactNodeNeeds reaches computes the plain function that is typed beside it; no condition. -/
import Derived.Test.YtaijnchdfgojiaaGreatDoorProg
import Derived.Test.YtaijnchdfgojiaaGreatDoorDat
import Derived.Test.YtaijnchdfgojiaaGreatDoorShelf
set_option linter.all false
set_option maxRecDepth 20000
set_option maxHeartbeats 40000000
namespace Go.Proofs.YtaijnchdfgojiaaGreatDoor
open Go Go.RowKit Go.Eng Go.Proofs.Tryz
open Go.IntKind (wrap)
variable {n H:Nat} {w:World}
abbrev ud2:=@underlying2
abbrev ud3:=@underlying3
abbrev qI:=@underlying4
abbrev Sr:=@underlying9
abbrev TD:=@underlying22
abbrev AdP:=@underlying24
abbrev UC:=@underlying25
abbrev DN:=@underlying26
abbrev UR:=@underlying27
abbrev AdZ:=@underlying29
abbrev Te:=@underlying30
abbrev AgD:=@underlying32
abbrev AaL:=@underlying34
abbrev Ab:=@underlying35
abbrev Db:=@underlying36
abbrev aR:=@underlying37
abbrev AdU:=@underlying39
abbrev cY:=@underlying40
abbrev AcZ:=@underlying42
abbrev GF:=@underlying54
abbrev FA:=@underlying57
abbrev GE:=@underlying58
abbrev GB:=@underlying61
abbrev Ep:=@underlying68
abbrev HY:=@underlying72
abbrev FY:=@underlying95
abbrev vK:=@underlying107
abbrev wA:=@underlying109
abbrev tD:=@underlying113
abbrev tP:=@underlying131
abbrev FS:=@underlying136
abbrev DM:=@underlying143
abbrev DK:=@underlying144
abbrev Er:=@underlying149
abbrev HN:=@underlying181
abbrev NH:=@underlying182
abbrev Oi:=@underlying192
abbrev Nd:=@underlying193
abbrev wJ:=@underlying195
abbrev wU:=@underlying197
abbrev wE:=@underlying200
abbrev GS:=@underlying224
abbrev On:=@underlying256
abbrev lC:=@underlying258
abbrev uG:=@underlying267
abbrev Nz:=@underlying269
abbrev yM:=@underlying271
abbrev cJ:=@underlying276
abbrev Pg:=@underlying294
abbrev uY:=@underlying315
theorem Tryz.hm:Tryz.prog.follows .mixedOrders=true:=by kernel_rfl
theorem Zj:Bj prog 107=some true:=by kernel_rfl
theorem lM:Bj prog 109=some true:=by kernel_rfl
theorem HX:Bj prog 115=some false:=by kernel_rfl
theorem YF:Bj prog 131=some true:=by kernel_rfl
theorem GC:Bj prog 134=some true:=by kernel_rfl
theorem DZ:Bj prog 143=some false:=by kernel_rfl
theorem EM:Bj prog 144=some false:=by kernel_rfl
theorem DA:Bj prog 146=some true:=by kernel_rfl
theorem GN:Bj prog 148=some true:=by kernel_rfl
theorem Ct:Bj prog 149=some false:=by kernel_rfl
theorem EZ:Bj prog 151=some true:=by kernel_rfl
theorem Cu:Bj prog 157=some true:=by kernel_rfl
theorem QA:Bj prog 181=some false:=by kernel_rfl
theorem Tn:Bj prog 182=some false:=by kernel_rfl
theorem YK:Bj prog 192=some false:=by kernel_rfl
theorem XJ:Bj prog 193=some false:=by kernel_rfl
theorem cE:Bj prog 195=some true:=by kernel_rfl
theorem Zv:Bj prog 197=some true:=by kernel_rfl
theorem AI:Bj prog 2=some false:=by kernel_rfl
theorem ZY:Bj prog 200=some true:=by kernel_rfl
theorem MA:Bj prog 203=some true:=by kernel_rfl
theorem UU:Bj prog 206=some true:=by kernel_rfl
theorem QZ:Bj prog 216=some true:=by kernel_rfl
theorem jX:Bj prog 22=some false:=by kernel_rfl
theorem kF:Bj prog 24=some true:=by kernel_rfl
theorem GO:Bj prog 243=some true:=by kernel_rfl
theorem jS:Bj prog 25=some false:=by kernel_rfl
theorem pE:Bj prog 258=some true:=by kernel_rfl
theorem Gj:Bj prog 26=some false:=by kernel_rfl
theorem bL:Bj prog 267=some true:=by kernel_rfl
theorem QI:Bj prog 269=some false:=by kernel_rfl
theorem lB:Bj prog 27=some false:=by kernel_rfl
theorem aL:Bj prog 271=some true:=by kernel_rfl
theorem Jc:Bj prog 280=some true:=by kernel_rfl
theorem kA:Bj prog 29=some true:=by kernel_rfl
theorem bD:Bj prog 298=some true:=by kernel_rfl
theorem SH:Bj prog 3=some false:=by kernel_rfl
theorem kZ:Bj prog 30=some false:=by kernel_rfl
theorem ZK:Bj prog 315=some true:=by kernel_rfl
theorem VG:Bj prog 32=some true:=by kernel_rfl
theorem bU:Bj prog 34=some true:=by kernel_rfl
theorem Ah:Bj prog 35=some false:=by kernel_rfl
theorem Dj:Bj prog 36=some false:=by kernel_rfl
theorem PV:Bj prog 37=some false:=by kernel_rfl
theorem Ug:Bj prog 39=some true:=by kernel_rfl
theorem De:Bj prog 4=some false:=by kernel_rfl
theorem Uh:Bj prog 42=some true:=by kernel_rfl
theorem CK:Bj prog 49=some true:=by kernel_rfl
theorem DJ:Bj prog 51=some true:=by kernel_rfl
theorem FC:Bj prog 54=some false:=by kernel_rfl
theorem JJ:Bj prog 56=some true:=by kernel_rfl
theorem Eo:Bj prog 57=some false:=by kernel_rfl
theorem GA:Bj prog 58=some false:=by kernel_rfl
theorem DL:Bj prog 60=some true:=by kernel_rfl
theorem FO:Bj prog 61=some false:=by kernel_rfl
theorem Bw:Bj prog 63=some true:=by kernel_rfl
theorem EV:Bj prog 65=some true:=by kernel_rfl
theorem DG:Bj prog 68=some false:=by kernel_rfl
theorem LP:Bj prog 70=some true:=by kernel_rfl
theorem NJ:Bj prog 75=some true:=by kernel_rfl
theorem Dn:Bj prog 9=some false:=by kernel_rfl
theorem Hv:Bj prog 95=some false:=by kernel_rfl
theorem Ta:Ar prog 107=some 2:=by kernel_rfl
theorem Xr:Ar prog 109=some 3:=by kernel_rfl
theorem Pn:Ar prog 131=some 4:=by kernel_rfl
theorem CO:Ar prog 134=some 4:=by kernel_rfl
theorem qX:Ar prog 143=some 1:=by kernel_rfl
theorem lJ:Ar prog 144=some 1:=by kernel_rfl
theorem Bg:Ar prog 146=some 7:=by kernel_rfl
theorem By:Ar prog 148=some 3:=by kernel_rfl
theorem Zd:Ar prog 149=some 1:=by kernel_rfl
theorem BZ:Ar prog 151=some 6:=by kernel_rfl
theorem Bb:Ar prog 157=some 4:=by kernel_rfl
theorem pF:Ar prog 182=some 1:=by kernel_rfl
theorem Pk:Ar prog 195=some 7:=by kernel_rfl
theorem Qo:Ar prog 197=some 3:=by kernel_rfl
theorem As:Ar prog 2=some 1:=by kernel_rfl
theorem QW:Ar prog 200=some 3:=by kernel_rfl
theorem DB:Ar prog 203=some 3:=by kernel_rfl
theorem Ey:Ar prog 206=some 4:=by kernel_rfl
theorem Fk:Ar prog 216=some 4:=by kernel_rfl
theorem jT:Ar prog 24=some 1:=by kernel_rfl
theorem DS:Ar prog 243=some 3:=by kernel_rfl
theorem UE:Ar prog 258=some 2:=by kernel_rfl
theorem yE:Ar prog 26=some 1:=by kernel_rfl
theorem Pr:Ar prog 267=some 4:=by kernel_rfl
theorem Pi:Ar prog 271=some 6:=by kernel_rfl
theorem CU:Ar prog 280=some 4:=by kernel_rfl
theorem kX:Ar prog 29=some 3:=by kernel_rfl
theorem Mo:Ar prog 298=some 2:=by kernel_rfl
theorem LG:Ar prog 3=some 1:=by kernel_rfl
theorem QV:Ar prog 315=some 3:=by kernel_rfl
theorem Us:Ar prog 32=some 5:=by kernel_rfl
theorem bI:Ar prog 34=some 5:=by kernel_rfl
theorem GR:Ar prog 35=some 1:=by kernel_rfl
theorem kG:Ar prog 36=some 1:=by kernel_rfl
theorem VC:Ar prog 39=some 3:=by kernel_rfl
theorem Ej:Ar prog 4=some 1:=by kernel_rfl
theorem VO:Ar prog 42=some 2:=by kernel_rfl
theorem Ag:Ar prog 49=some 2:=by kernel_rfl
theorem BC:Ar prog 51=some 3:=by kernel_rfl
theorem tJ:Ar prog 54=some 1:=by kernel_rfl
theorem Gy:Ar prog 56=some 1:=by kernel_rfl
theorem yK:Ar prog 57=some 1:=by kernel_rfl
theorem yN:Ar prog 58=some 1:=by kernel_rfl
theorem Cv:Ar prog 60=some 3:=by kernel_rfl
theorem wO:Ar prog 61=some 1:=by kernel_rfl
theorem Br:Ar prog 63=some 5:=by kernel_rfl
theorem ES:Ar prog 65=some 5:=by kernel_rfl
theorem Zu:Ar prog 68=some 1:=by kernel_rfl
theorem JH:Ar prog 70=some 3:=by kernel_rfl
theorem LI:Ar prog 75=some 2:=by kernel_rfl
theorem Jq:Ar prog 9=some 1:=by kernel_rfl
theorem kV:Ar prog 95=some 1:=by kernel_rfl
theorem Pb:iM prog 49 2=true:=by kernel_rfl
theorem ZX:AL prog 107 0=some 0:=by kernel_rfl
theorem ZQ:AL prog 107 1=some 1:=by kernel_rfl
theorem dN:AL prog 109 0=some 0:=by kernel_rfl
theorem bX:AL prog 109 1=some 1:=by kernel_rfl
theorem Es:AL prog 117 0=some 0:=by kernel_rfl
theorem JY:AL prog 117 1=some 1:=by kernel_rfl
theorem RF:AL prog 131 0=some 0:=by kernel_rfl
theorem RN:AL prog 131 1=some 1:=by kernel_rfl
theorem RD:AL prog 131 2=some 2:=by kernel_rfl
theorem SV:AL prog 131 3=some 3:=by kernel_rfl
theorem EK:AL prog 134 0=some 0:=by kernel_rfl
theorem EW:AL prog 134 1=some 1:=by kernel_rfl
theorem FV:AL prog 134 2=some 2:=by kernel_rfl
theorem Dg:AL prog 134 3=some 3:=by kernel_rfl
theorem Fz:AL prog 146 0=some 0:=by kernel_rfl
theorem KD:AL prog 146 1=some 1:=by kernel_rfl
theorem Bx:AL prog 146 2=some 2:=by kernel_rfl
theorem CZ:AL prog 146 3=some 3:=by kernel_rfl
theorem EJ:AL prog 146 4=some 4:=by kernel_rfl
theorem Jj:AL prog 146 5=some 5:=by kernel_rfl
theorem KM:AL prog 146 6=some 6:=by kernel_rfl
theorem Jh:AL prog 148 0=some 0:=by kernel_rfl
theorem Du:AL prog 148 1=some 1:=by kernel_rfl
theorem DW:AL prog 148 2=some 2:=by kernel_rfl
theorem Cq:AL prog 151 0=some 0:=by kernel_rfl
theorem Cm:AL prog 151 1=some 1:=by kernel_rfl
theorem Bv:AL prog 151 2=some 2:=by kernel_rfl
theorem Co:AL prog 151 3=some 3:=by kernel_rfl
theorem Dy:AL prog 151 4=some 4:=by kernel_rfl
theorem Ds:AL prog 151 5=some 5:=by kernel_rfl
theorem OL:AL prog 157 0=some 0:=by kernel_rfl
theorem DD:AL prog 157 1=some 1:=by kernel_rfl
theorem FH:AL prog 157 2=some 2:=by kernel_rfl
theorem Hp:AL prog 157 3=some 3:=by kernel_rfl
theorem Sn:AL prog 184 0=some 0:=by kernel_rfl
theorem MS:AL prog 184 1=some 5:=by kernel_rfl
theorem DV:AL prog 184 2=some 6:=by kernel_rfl
theorem MX:AL prog 184 3=some 7:=by kernel_rfl
theorem MR:AL prog 184 4=some 8:=by kernel_rfl
theorem RK:AL prog 184 5=some 9:=by kernel_rfl
theorem RZ:AL prog 195 0=some 0:=by kernel_rfl
theorem Xp:AL prog 195 1=some 1:=by kernel_rfl
theorem So:AL prog 195 2=some 2:=by kernel_rfl
theorem Rg:AL prog 195 3=some 3:=by kernel_rfl
theorem SN:AL prog 195 4=some 4:=by kernel_rfl
theorem YZ:AL prog 195 5=some 5:=by kernel_rfl
theorem ZE:AL prog 195 6=some 6:=by kernel_rfl
theorem Qv:AL prog 197 0=some 0:=by kernel_rfl
theorem Wx:AL prog 197 1=some 1:=by kernel_rfl
theorem Si:AL prog 197 2=some 2:=by kernel_rfl
theorem RL:AL prog 200 0=some 0:=by kernel_rfl
theorem aH:AL prog 200 1=some 1:=by kernel_rfl
theorem dG:AL prog 200 2=some 2:=by kernel_rfl
theorem JM:AL prog 203 0=some 0:=by kernel_rfl
theorem En:AL prog 203 1=some 1:=by kernel_rfl
theorem FE:AL prog 203 2=some 2:=by kernel_rfl
theorem Me:AL prog 206 0=some 0:=by kernel_rfl
theorem Rr:AL prog 206 1=some 1:=by kernel_rfl
theorem MP:AL prog 206 2=some 2:=by kernel_rfl
theorem SS:AL prog 206 3=some 3:=by kernel_rfl
theorem Oc:AL prog 216 0=some 0:=by kernel_rfl
theorem Yt:AL prog 216 1=some 1:=by kernel_rfl
theorem Hh:AL prog 216 2=some 2:=by kernel_rfl
theorem Nj:AL prog 216 3=some 3:=by kernel_rfl
theorem FJ:AL prog 243 0=some 0:=by kernel_rfl
theorem EY:AL prog 243 1=some 1:=by kernel_rfl
theorem CY:AL prog 243 2=some 2:=by kernel_rfl
theorem VK:AL prog 24 0=some 0:=by kernel_rfl
theorem SE:AL prog 267 0=some 0:=by kernel_rfl
theorem Xl:AL prog 267 1=some 1:=by kernel_rfl
theorem Zx:AL prog 267 2=some 2:=by kernel_rfl
theorem dS:AL prog 267 3=some 3:=by kernel_rfl
theorem dE:AL prog 271 0=some 0:=by kernel_rfl
theorem aU:AL prog 271 1=some 1:=by kernel_rfl
theorem Xz:AL prog 271 2=some 2:=by kernel_rfl
theorem Yb:AL prog 271 3=some 3:=by kernel_rfl
theorem SZ:AL prog 271 4=some 4:=by kernel_rfl
theorem Rq:AL prog 271 5=some 5:=by kernel_rfl
theorem Gm:AL prog 280 0=some 0:=by kernel_rfl
theorem Gh:AL prog 280 1=some 1:=by kernel_rfl
theorem FW:AL prog 280 2=some 2:=by kernel_rfl
theorem DE:AL prog 280 3=some 3:=by kernel_rfl
theorem Ru:AL prog 298 0=some 0:=by kernel_rfl
theorem RG:AL prog 298 1=some 1:=by kernel_rfl
theorem VH:AL prog 29 0=some 0:=by kernel_rfl
theorem VD:AL prog 29 1=some 1:=by kernel_rfl
theorem VJ:AL prog 29 2=some 2:=by kernel_rfl
theorem Ry:AL prog 315 0=some 0:=by kernel_rfl
theorem Rh:AL prog 315 1=some 1:=by kernel_rfl
theorem Qx:AL prog 315 2=some 2:=by kernel_rfl
theorem VB:AL prog 32 0=some 0:=by kernel_rfl
theorem VR:AL prog 32 1=some 1:=by kernel_rfl
theorem Uo:AL prog 32 2=some 4:=by kernel_rfl
theorem Uk:AL prog 34 0=some 0:=by kernel_rfl
theorem iY:AL prog 34 1=some 1:=by kernel_rfl
theorem hZ:AL prog 34 2=some 2:=by kernel_rfl
theorem fB:AL prog 34 3=some 3:=by kernel_rfl
theorem hD:AL prog 34 4=some 4:=by kernel_rfl
theorem Uy:AL prog 39 0=some 0:=by kernel_rfl
theorem Ul:AL prog 39 1=some 1:=by kernel_rfl
theorem VL:AL prog 39 2=some 2:=by kernel_rfl
theorem Ur:AL prog 42 0=some 0:=by kernel_rfl
theorem Ut:AL prog 42 1=some 1:=by kernel_rfl
theorem Bc:AL prog 49 0=some 0:=by kernel_rfl
theorem Bh:AL prog 49 1=some 1:=by kernel_rfl
theorem FR:AL prog 51 0=some 0:=by kernel_rfl
theorem EO:AL prog 51 1=some 1:=by kernel_rfl
theorem Cx:AL prog 56 0=some 0:=by kernel_rfl
theorem Ci:AL prog 60 0=some 0:=by kernel_rfl
theorem ER:AL prog 60 1=some 1:=by kernel_rfl
theorem Da:AL prog 60 2=some 2:=by kernel_rfl
theorem FF:AL prog 63 0=some 0:=by kernel_rfl
theorem CX:AL prog 63 1=some 1:=by kernel_rfl
theorem Cz:AL prog 63 2=some 4:=by kernel_rfl
theorem Px:AL prog 65 0=some 0:=by kernel_rfl
theorem KY:AL prog 65 1=some 1:=by kernel_rfl
theorem KX:AL prog 65 2=some 2:=by kernel_rfl
theorem KW:AL prog 65 3=some 3:=by kernel_rfl
theorem Kg:AL prog 65 4=some 4:=by kernel_rfl
theorem Fp:AL prog 70 0=some 0:=by kernel_rfl
theorem GZ:AL prog 70 1=some 1:=by kernel_rfl
theorem Ew:AL prog 70 2=some 2:=by kernel_rfl
theorem FL:AL prog 75 0=some 0:=by kernel_rfl
theorem ED:AL prog 75 1=some 1:=by kernel_rfl
theorem Zo:Ng prog 151 4=some (149,4):=by kernel_rfl
theorem ZI:Ng prog 151 5=some (149,5):=by kernel_rfl
theorem Uu:AZ prog 10=true:=by kernel_rfl
theorem rK:AZ prog 100=true:=by kernel_rfl
theorem oZ:AZ prog 101=true:=by kernel_rfl
theorem pH:AZ prog 102=true:=by kernel_rfl
theorem pJ:AZ prog 103=true:=by kernel_rfl
theorem It:AZ prog 104=true:=by kernel_rfl
theorem mH:AZ prog 105=true:=by kernel_rfl
theorem lH:AZ prog 106=true:=by kernel_rfl
theorem TB:AZ prog 107=true:=by kernel_rfl
theorem Pu:AZ prog 108=true:=by kernel_rfl
theorem nP:AZ prog 109=true:=by kernel_rfl
theorem Rl:AZ prog 11=true:=by kernel_rfl
theorem oU:AZ prog 110=true:=by kernel_rfl
theorem qU:AZ prog 111=true:=by kernel_rfl
theorem pM:AZ prog 112=true:=by kernel_rfl
theorem Le:AZ prog 113=true:=by kernel_rfl
theorem Lh:AZ prog 114=true:=by kernel_rfl
theorem nW:AZ prog 115=true:=by kernel_rfl
theorem oC:AZ prog 116=true:=by kernel_rfl
theorem qE:AZ prog 117=true:=by kernel_rfl
theorem nH:AZ prog 118=true:=by kernel_rfl
theorem Qm:AZ prog 119=true:=by kernel_rfl
theorem Gp:AZ prog 12=true:=by kernel_rfl
theorem mQ:AZ prog 120=true:=by kernel_rfl
theorem UF:AZ prog 121=true:=by kernel_rfl
theorem ZF:AZ prog 122=true:=by kernel_rfl
theorem nL:AZ prog 123=true:=by kernel_rfl
theorem NA:AZ prog 124=true:=by kernel_rfl
theorem Tp:AZ prog 125=true:=by kernel_rfl
theorem qW:AZ prog 126=true:=by kernel_rfl
theorem Yy:AZ prog 127=true:=by kernel_rfl
theorem TR:AZ prog 128=true:=by kernel_rfl
theorem Yd:AZ prog 129=true:=by kernel_rfl
theorem Nk:AZ prog 13=true:=by kernel_rfl
theorem oT:AZ prog 130=true:=by kernel_rfl
theorem Ld:AZ prog 131=true:=by kernel_rfl
theorem rR:AZ prog 132=true:=by kernel_rfl
theorem YP:AZ prog 133=true:=by kernel_rfl
theorem XR:AZ prog 134=true:=by kernel_rfl
theorem pN:AZ prog 135=true:=by kernel_rfl
theorem rS:AZ prog 136=true:=by kernel_rfl
theorem pS:AZ prog 137=true:=by kernel_rfl
theorem oR:AZ prog 138=true:=by kernel_rfl
theorem FP:AZ prog 139=true:=by kernel_rfl
theorem NG:AZ prog 14=true:=by kernel_rfl
theorem UG:AZ prog 140=true:=by kernel_rfl
theorem Ji:AZ prog 141=true:=by kernel_rfl
theorem lF:AZ prog 142=true:=by kernel_rfl
theorem pT:AZ prog 143=true:=by kernel_rfl
theorem rW:AZ prog 144=true:=by kernel_rfl
theorem pV:AZ prog 145=true:=by kernel_rfl
theorem pX:AZ prog 146=true:=by kernel_rfl
theorem nA:AZ prog 147=true:=by kernel_rfl
theorem dT:AZ prog 148=true:=by kernel_rfl
theorem Zg:AZ prog 149=true:=by kernel_rfl
theorem MN:AZ prog 15=true:=by kernel_rfl
theorem lW:AZ prog 150=true:=by kernel_rfl
theorem cD:AZ prog 151=true:=by kernel_rfl
theorem Oj:AZ prog 152=true:=by kernel_rfl
theorem ZC:AZ prog 153=true:=by kernel_rfl
theorem nJ:AZ prog 154=true:=by kernel_rfl
theorem mC:AZ prog 155=true:=by kernel_rfl
theorem lL:AZ prog 156=true:=by kernel_rfl
theorem qB:AZ prog 157=true:=by kernel_rfl
theorem lO:AZ prog 158=true:=by kernel_rfl
theorem nZ:AZ prog 159=true:=by kernel_rfl
theorem bG:AZ prog 16=true:=by kernel_rfl
theorem Xw:AZ prog 160=true:=by kernel_rfl
theorem mA:AZ prog 161=true:=by kernel_rfl
theorem mJ:AZ prog 162=true:=by kernel_rfl
theorem mW:AZ prog 163=true:=by kernel_rfl
theorem nC:AZ prog 164=true:=by kernel_rfl
theorem qK:AZ prog 165=true:=by kernel_rfl
theorem pR:AZ prog 166=true:=by kernel_rfl
theorem qV:AZ prog 167=true:=by kernel_rfl
theorem mO:AZ prog 168=true:=by kernel_rfl
theorem oE:AZ prog 169=true:=by kernel_rfl
theorem jR:AZ prog 17=true:=by kernel_rfl
theorem mL:AZ prog 170=true:=by kernel_rfl
theorem Zm:AZ prog 171=true:=by kernel_rfl
theorem dL:AZ prog 172=true:=by kernel_rfl
theorem rI:AZ prog 173=true:=by kernel_rfl
theorem XU:AZ prog 174=true:=by kernel_rfl
theorem bT:AZ prog 175=true:=by kernel_rfl
theorem QO:AZ prog 176=true:=by kernel_rfl
theorem XB:AZ prog 177=true:=by kernel_rfl
theorem bW:AZ prog 178=true:=by kernel_rfl
theorem nO:AZ prog 179=true:=by kernel_rfl
theorem wH:AZ prog 18=true:=by kernel_rfl
theorem rH:AZ prog 180=true:=by kernel_rfl
theorem nS:AZ prog 181=true:=by kernel_rfl
theorem pY:AZ prog 182=true:=by kernel_rfl
theorem nE:AZ prog 183=true:=by kernel_rfl
theorem lZ:AZ prog 184=true:=by kernel_rfl
theorem qD:AZ prog 185=true:=by kernel_rfl
theorem rL:AZ prog 186=true:=by kernel_rfl
theorem ZV:AZ prog 187=true:=by kernel_rfl
theorem cB:AZ prog 188=true:=by kernel_rfl
theorem cC:AZ prog 189=true:=by kernel_rfl
theorem LQ:AZ prog 19=true:=by kernel_rfl
theorem oB:AZ prog 190=true:=by kernel_rfl
theorem oH:AZ prog 191=true:=by kernel_rfl
theorem qP:AZ prog 192=true:=by kernel_rfl
theorem nT:AZ prog 193=true:=by kernel_rfl
theorem Np:AZ prog 194=true:=by kernel_rfl
theorem oF:AZ prog 195=true:=by kernel_rfl
theorem nQ:AZ prog 196=true:=by kernel_rfl
theorem oO:AZ prog 197=true:=by kernel_rfl
theorem lR:AZ prog 198=true:=by kernel_rfl
theorem xX:AZ prog 20=true:=by kernel_rfl
theorem XD:AZ prog 207=true:=by kernel_rfl
theorem ZN:AZ prog 208=true:=by kernel_rfl
theorem lP:AZ prog 209=true:=by kernel_rfl
theorem sS:AZ prog 21=true:=by kernel_rfl
theorem pG:AZ prog 210=true:=by kernel_rfl
theorem rP:AZ prog 211=true:=by kernel_rfl
theorem dI:AZ prog 212=true:=by kernel_rfl
theorem Hc:AZ prog 213=true:=by kernel_rfl
theorem mS:AZ prog 214=true:=by kernel_rfl
theorem oQ:AZ prog 215=true:=by kernel_rfl
theorem YO:AZ prog 216=true:=by kernel_rfl
theorem mB:AZ prog 217=true:=by kernel_rfl
theorem lI:AZ prog 218=true:=by kernel_rfl
theorem qR:AZ prog 219=true:=by kernel_rfl
theorem sX:AZ prog 22=true:=by kernel_rfl
theorem lV:AZ prog 220=true:=by kernel_rfl
theorem rU:AZ prog 226=true:=by kernel_rfl
theorem cX:AZ prog 227=true:=by kernel_rfl
theorem pU:AZ prog 228=true:=by kernel_rfl
theorem mV:AZ prog 229=true:=by kernel_rfl
theorem vQ:AZ prog 23=true:=by kernel_rfl
theorem qY:AZ prog 230=true:=by kernel_rfl
theorem bA:AZ prog 231=true:=by kernel_rfl
theorem pZ:AZ prog 232=true:=by kernel_rfl
theorem Xu:AZ prog 233=true:=by kernel_rfl
theorem qM:AZ prog 234=true:=by kernel_rfl
theorem UH:AZ prog 235=true:=by kernel_rfl
theorem Mw:AZ prog 236=true:=by kernel_rfl
theorem qQ:AZ prog 237=true:=by kernel_rfl
theorem sV:AZ prog 24=true:=by kernel_rfl
theorem lY:AZ prog 241=true:=by kernel_rfl
theorem Xx:AZ prog 242=true:=by kernel_rfl
theorem oW:AZ prog 243=true:=by kernel_rfl
theorem oD:AZ prog 244=true:=by kernel_rfl
theorem nM:AZ prog 245=true:=by kernel_rfl
theorem Tz:AZ prog 246=true:=by kernel_rfl
theorem nY:AZ prog 247=true:=by kernel_rfl
theorem Zy:AZ prog 248=true:=by kernel_rfl
theorem Zk:AZ prog 249=true:=by kernel_rfl
theorem vP:AZ prog 25=true:=by kernel_rfl
theorem oJ:AZ prog 250=true:=by kernel_rfl
theorem Xt:AZ prog 254=true:=by kernel_rfl
theorem dD:AZ prog 255=true:=by kernel_rfl
theorem rG:AZ prog 256=true:=by kernel_rfl
theorem rX:AZ prog 257=true:=by kernel_rfl
theorem oX:AZ prog 258=true:=by kernel_rfl
theorem qA:AZ prog 259=true:=by kernel_rfl
theorem kR:AZ prog 26=true:=by kernel_rfl
theorem oI:AZ prog 260=true:=by kernel_rfl
theorem oG:AZ prog 261=true:=by kernel_rfl
theorem qJ:AZ prog 262=true:=by kernel_rfl
theorem YH:AZ prog 263=true:=by kernel_rfl
theorem bV:AZ prog 27=true:=by kernel_rfl
theorem Ze:AZ prog 28=true:=by kernel_rfl
theorem uR:AZ prog 29=true:=by kernel_rfl
theorem RB:AZ prog 30=true:=by kernel_rfl
theorem wG:AZ prog 31=true:=by kernel_rfl
theorem EG:AZ prog 32=true:=by kernel_rfl
theorem Yq:AZ prog 33=true:=by kernel_rfl
theorem XG:AZ prog 34=true:=by kernel_rfl
theorem XV:AZ prog 35=true:=by kernel_rfl
theorem Ww:AZ prog 36=true:=by kernel_rfl
theorem xS:AZ prog 37=true:=by kernel_rfl
theorem uK:AZ prog 38=true:=by kernel_rfl
theorem xG:AZ prog 39=true:=by kernel_rfl
theorem AdK:AZ prog 4=true:=by kernel_rfl
theorem kO:AZ prog 40=true:=by kernel_rfl
theorem cK:AZ prog 41=true:=by kernel_rfl
theorem wK:AZ prog 42=true:=by kernel_rfl
theorem sY:AZ prog 43=true:=by kernel_rfl
theorem kB:AZ prog 44=true:=by kernel_rfl
theorem xB:AZ prog 45=true:=by kernel_rfl
theorem Xm:AZ prog 46=true:=by kernel_rfl
theorem lA:AZ prog 47=true:=by kernel_rfl
theorem vL:AZ prog 48=true:=by kernel_rfl
theorem uQ:AZ prog 49=true:=by kernel_rfl
theorem AaD:AZ prog 5=true:=by kernel_rfl
theorem xA:AZ prog 50=true:=by kernel_rfl
theorem kM:AZ prog 51=true:=by kernel_rfl
theorem YQ:AZ prog 52=true:=by kernel_rfl
theorem wR:AZ prog 53=true:=by kernel_rfl
theorem tF:AZ prog 54=true:=by kernel_rfl
theorem uL:AZ prog 55=true:=by kernel_rfl
theorem uN:AZ prog 56=true:=by kernel_rfl
theorem vH:AZ prog 57=true:=by kernel_rfl
theorem uT:AZ prog 58=true:=by kernel_rfl
theorem wY:AZ prog 59=true:=by kernel_rfl
theorem zT:AZ prog 6=true:=by kernel_rfl
theorem Yv:AZ prog 60=true:=by kernel_rfl
theorem NI:AZ prog 61=true:=by kernel_rfl
theorem xV:AZ prog 62=true:=by kernel_rfl
theorem xZ:AZ prog 63=true:=by kernel_rfl
theorem jV:AZ prog 64=true:=by kernel_rfl
theorem wV:AZ prog 65=true:=by kernel_rfl
theorem vZ:AZ prog 66=true:=by kernel_rfl
theorem vM:AZ prog 67=true:=by kernel_rfl
theorem jY:AZ prog 68=true:=by kernel_rfl
theorem uB:AZ prog 69=true:=by kernel_rfl
theorem AbY:AZ prog 7=true:=by kernel_rfl
theorem SA:AZ prog 70=true:=by kernel_rfl
theorem Sp:AZ prog 71=true:=by kernel_rfl
theorem tQ:AZ prog 72=true:=by kernel_rfl
theorem tR:AZ prog 73=true:=by kernel_rfl
theorem yD:AZ prog 74=true:=by kernel_rfl
theorem uW:AZ prog 75=true:=by kernel_rfl
theorem uV:AZ prog 76=true:=by kernel_rfl
theorem tT:AZ prog 77=true:=by kernel_rfl
theorem kH:AZ prog 78=true:=by kernel_rfl
theorem yP:AZ prog 79=true:=by kernel_rfl
theorem AgG:AZ prog 8=true:=by kernel_rfl
theorem wD:AZ prog 80=true:=by kernel_rfl
theorem xI:AZ prog 81=true:=by kernel_rfl
theorem wF:AZ prog 82=true:=by kernel_rfl
theorem vD:AZ prog 83=true:=by kernel_rfl
theorem xN:AZ prog 84=true:=by kernel_rfl
theorem uU:AZ prog 85=true:=by kernel_rfl
theorem xW:AZ prog 86=true:=by kernel_rfl
theorem yH:AZ prog 87=true:=by kernel_rfl
theorem GP:AZ prog 88=true:=by kernel_rfl
theorem RM:AZ prog 89=true:=by kernel_rfl
theorem SJ:AZ prog 9=true:=by kernel_rfl
theorem tI:AZ prog 90=true:=by kernel_rfl
theorem xF:AZ prog 91=true:=by kernel_rfl
theorem aG:AZ prog 92=true:=by kernel_rfl
theorem dA:AZ prog 93=true:=by kernel_rfl
theorem LJ:AZ prog 94=true:=by kernel_rfl
theorem Un:AZ prog 95=true:=by kernel_rfl
theorem uE:AZ prog 96=true:=by kernel_rfl
theorem xM:AZ prog 97=true:=by kernel_rfl
theorem wW:AZ prog 98=true:=by kernel_rfl
theorem xR:AZ prog 99=true:=by kernel_rfl
theorem sC:DT prog 134=some ([.slice none 0 0, .slice none 0 0, .slice none 0 0, .slice none 0 0],4,96):=by kernel_rfl
theorem oN:DT prog 146=some ([.string ByteArray.empty, .i 0, .slice none 0 0, .slice none 0 0, .slice none 0 0, .i 0, .i 0],7,112):=by kernel_rfl
theorem mN:DT prog 148=some ([.string ByteArray.empty, .i 0, .slice none 0 0],3,48):=by kernel_rfl
theorem qZ:DT prog 151=some ([.i 0, .i 0, .i 0, .i 0, .slice none 0 0, .slice none 0 0],6,80):=by kernel_rfl
theorem KA:DT prog 157=some ([.i 0, .i 0, .i 0, .i 0],4,32):=by kernel_rfl
theorem Dl:DT prog 2=some ([.i 0],1,8):=by kernel_rfl
theorem qO:DT prog 203=some ([.string ByteArray.empty, .i 0, .i 0],3,32):=by kernel_rfl
theorem OH:DT prog 206=some ([.i 0, .i 0, .i 0, .bool false],4,32):=by kernel_rfl
theorem QD:DT prog 216=some ([.i 0, .i 0, .i 0, .bool false],4,32):=by kernel_rfl
theorem pD:DT prog 243=some ([.slice none 0 0, .slice none 0 0, .slice none 0 0],3,72):=by kernel_rfl
theorem OU:DT prog 258=some ([.i 0, .i 0],2,16):=by kernel_rfl
theorem sD:DT prog 280=some ([.string ByteArray.empty, .i 0, .i 0, .bool false],4,40):=by kernel_rfl
theorem ZU:DT prog 298=some ([.i 0, .i 0],2,16):=by kernel_rfl
theorem yJ:DT prog 3=some ([.i 0],1,8):=by kernel_rfl
theorem aS:DT prog 35=some ([.slice none 0 0],1,24):=by kernel_rfl
theorem UQ:DT prog 4=some ([.bool false],1,1):=by kernel_rfl
theorem vJ:DT prog 49=some ([.i 0, .i 0],2,16):=by kernel_rfl
theorem vS:DT prog 51=some ([.i 0, .i 0, .i 0],3,24):=by kernel_rfl
theorem LW:DT prog 9=some ([.string ByteArray.empty],1,16):=by kernel_rfl
theorem Pe:∀(a0:Int) (a1:Int),gD prog 49 [.i a0, .i a1]=true:=by intros;kernel_rfl
theorem nG:Ev prog 117=some [(0,1),(1,1)]:=by kernel_rfl
theorem Tc:Ev prog 157=some [(0,1),(1,1),(2,1),(3,1)]:=by kernel_rfl
theorem lN:Ev prog 184=some [(0,5),(5,1),(6,1),(7,1),(8,1),(9,1)]:=by kernel_rfl
theorem YV:Ev prog 206=some [(0,1),(1,1),(2,1),(3,1)]:=by kernel_rfl
theorem Yx:Ev prog 216=some [(0,1),(1,1),(2,1),(3,1)]:=by kernel_rfl
theorem GJ:Ev prog 258=some [(0,1),(1,1)]:=by kernel_rfl
theorem TN:Ev prog 298=some [(0,1),(1,1)]:=by kernel_rfl
theorem Dt:Ev prog 49=some [(0,1),(1,1)]:=by kernel_rfl
theorem Fy:Ev prog 51=some [(0,1),(1,2)]:=by kernel_rfl
theorem oV:Dk prog 117=some [.pointer none, .slice none 0 0]:=by kernel_rfl
theorem KG:Dk prog 134=some [.slice none 0 0, .slice none 0 0, .slice none 0 0, .slice none 0 0]:=by kernel_rfl
theorem Ts:Dk prog 146=some [.string ByteArray.empty, .i 0, .slice none 0 0, .slice none 0 0, .slice none 0 0, .i 0, .i 0]:=by kernel_rfl
theorem JS:Dk prog 148=some [.string ByteArray.empty, .i 0, .slice none 0 0]:=by kernel_rfl
theorem Hz:Dk prog 151=some [.i 0, .i 0, .i 0, .i 0, .slice none 0 0, .slice none 0 0]:=by kernel_rfl
theorem Ic:Dk prog 157=some [.i 0, .i 0, .i 0, .i 0]:=by kernel_rfl
theorem pP:Dk prog 184=some [.slice none 0 0, .slice none 0 0, .slice none 0 0, .slice none 0 0, .slice none 0 0, .slice none 0 0, .slice none 0 0, .slice none 0 0, .slice none 0 0, .slice none 0 0]:=by kernel_rfl
theorem OY:Dk prog 203=some [.string ByteArray.empty, .i 0, .i 0]:=by kernel_rfl
theorem Pj:Dk prog 206=some [.i 0, .i 0, .i 0, .bool false]:=by kernel_rfl
theorem OM:Dk prog 216=some [.i 0, .i 0, .i 0, .bool false]:=by kernel_rfl
theorem Zs:Dk prog 243=some [.slice none 0 0, .slice none 0 0, .slice none 0 0]:=by kernel_rfl
theorem Fm:Dk prog 258=some [.i 0, .i 0]:=by kernel_rfl
theorem Og:Dk prog 280=some [.string ByteArray.empty, .i 0, .i 0, .bool false]:=by kernel_rfl
theorem ON:Dk prog 298=some [.i 0, .i 0]:=by kernel_rfl
theorem AaS:Dk prog 4=some [.bool false]:=by kernel_rfl
theorem BL:Dk prog 49=some [.i 0, .i 0]:=by kernel_rfl
theorem CV:Dk prog 51=some [.i 0, .i 0, .i 0]:=by kernel_rfl
theorem kD:Dk prog 56=some [.slice none 0 0]:=by kernel_rfl
theorem YS:Dk prog 60=some [.slice none 0 0, .slice none 0 0, .slice none 0 0]:=by kernel_rfl
theorem dF:Dk prog 63=some [.slice none 0 0, .slice none 0 0, .slice none 0 0, .slice none 0 0, .slice none 0 0]:=by kernel_rfl
theorem kT:Dk prog 65=some [.string ByteArray.empty, .i 0, .i 0, .i 0, .i 0]:=by kernel_rfl
theorem Za:Dk prog 70=some [.slice none 0 0, .slice none 0 0, .slice none 0 0]:=by kernel_rfl
theorem YD:Dk prog 75=some [.slice none 0 0, .slice none 0 0]:=by kernel_rfl
def XI(n:Nat)(a0_s:ByteArray)(a1_cutset:ByteArray):Option ByteArray:=if a0_s.size<=9223372036854775807∧a1_cutset.size<4294967281∧(a1_cutset.data.toList.all fun b=>decide (b.toNat<128))=true then some ⟨(Lib.trimS a0_s.data.toList a1_cutset.data.toList).toArray⟩else none
theorem zV{n:Nat}{a0_s a1_cutset c:ByteArray}{w:World}(a:XI n a0_s a1_cutset=some c):
 Calls prog 164 [.string a0_s, .string a1_cutset].toArray w (Di fun d e=>d= .string c∧AD w e):=by
 unfold XI at a
 split at a
 ·rename_i b
  obtain rfl:=Option.some.inj a
  refine(strings_Trim_ascii a0_s a1_cutset w b.1 b.2.1 (fun g f hb=>of_decide_eq_true (List.all_eq_true.1 b.2.2 f (List.mem_of_getElem? hb)))).mono ?_
  rintro h w' ⟨rfl,hB⟩
  exact⟨_,z,z,hB⟩
 ·cases a
def rC(n:Nat)(a0_s:ByteArray)(a1_c:Int):Option Int:=some (Lib.indexByte a0_s.data.toList a1_c.toNat.toUInt8)
theorem AaK{n:Nat}{a0_s:ByteArray}{a1_c a:Int}{w:World}(b:rC n a0_s a1_c=some a):
 Calls prog 165 [.string a0_s, .int .u8 a1_c].toArray w (Di fun c d=>c= .i a∧AD w d):=by
 obtain rfl:=Option.some.inj b
 refine(strings_IndexByte a0_s a1_c w).mono ?_
 rintro e w' ⟨rfl,rfl⟩
 exact⟨_,z,z,AD.refl _⟩
def HM(a0:List ByteArray)(a1:ByteArray)(k0:Int->Option Int):Nat->Int->Option Int
 |0,_=>none
 |m+1,a=>cond (decide (a<(a0.length:Int))) ((AG a0 a).bind fun b=>cond (a1.toList==b.toList) (some a) (HM a0 a1 k0 m (wrap .i64 (a+1)))) (k0 a)
def jK(n:Nat)(a0:List ByteArray)(a1:ByteArray):Option Int:=HM a0 a1 (fun a=>some (-1)) n 0
theorem AaT{f:List ByteArray}{g:ByteArray}{i:Int}{j:Value}(a:jK n f g=some i)(m:H<=w.heap.size)(k:AP At w H f j):
 Calls prog 237 [j,.string g].toArray w (Ak (.i i) w):=by
 have l:=AD.refl w;unfold jK at a;refine AB func237 z ntmps237 (Rc 9 (Yl z (CJ z DN (k.oj l)) (Ro 4 ?_)));refine WC.loopD (fun b h wl=>∃c:Int,Kn 19 [(0,j),(1,.string g),(7,.i ((f.length:Int))),(8,.i c)] h∧AD w wl∧HM f g (fun c=>(some (-1))) b c=some i) n ?_ ?_
 ·intro h d;exact⟨0,d.sub z,AD.refl _,a⟩
 ·rintro b h o ⟨c,d,e,a⟩;refine CB d ?_;rcases b with _|b;exact CA a;rw [HM.eq_2]at a;have p:=e.size;refine Rc 6 (Wf a e ?_);intro a;refine Rc 15 (Il a (k.oj e) DN Jq Dn ?_);rintro q a _;refine Ro 3 (Wt a e ?_);intro a;refine Rc 8 ?_;intro h d;exact⟨b,nr,(wrap .i64 (c+1)),d.sub z,e,a⟩
def aD(n:Nat)(a0:List ByteArray)(a1:ByteArray):Option Bool:=(jK n a0 a1).bind fun a=>some (decide (a>=0))
theorem AgM{b:List ByteArray}{c:ByteArray}{d:Bool}{e:Value}(a:aD n b c=some d)(j:H<=w.heap.size)(g:AP At w H b e):
 Calls prog 220 [e,.string c].toArray w (Ak (.bool d) w):=by
 have f:=AD.refl w;unfold aD at a;refine AB func220 z ntmps220 (Rc 9 (Cs a f qQ (fun _ h=>(AaT h (by omega) (g.oj f):)) ?_));rintro k a l m ⟨i,o⟩;exact DY a i
def IC(a0:List Int)(k0:Int->Int->Option Int):Nat->Int->Int->Option Int
 |0,_,_=>none
 |m+1,b,a=>cond (decide (a<(a0.length:Int))) ((AG a0 a).bind fun c=>IC a0 k0 m (min b c) (wrap .i64 (a+1))) (k0 b a)
def aB(n:Nat)(a0:List Int):Option Int:=cond (decide ((a0.length:Int)<1)) none ((AG a0 0).bind fun c=>IC a0 (fun a b=>some a) n c 1)
theorem AdR{i:List Int}{j:Int}{k:Value}(a:aB n i=some j)(p:H<=w.heap.size)(g:AP (AH .i64) w H i k):
 Calls prog 259 [k].toArray w (Ak (.i j) w):=by
 have l:=AD.refl w;unfold aB at a;refine AB func259 z ntmps259 (Rc 9 (Yl z (CJ z Ab (g.oj l)) (Ro 3 (Wc z a ?_ ?_))))
 ·intro a;cases a
 ·intro a;refine Rc 5 (Il a (g.oj l) Ab As AI ?_);rintro m a _;refine Ro 10 (WC.loopD (fun c h wl=>∃b d:Int,Kn 25 [(0,k),(3,.i b),(4,.i d)] h∧AD w wl∧IC i (fun b d=>(some b)) c b d=some j) n ?_ ?_)
  ·intro h e;exact⟨m,1,e.sub z,AD.refl _,a⟩
  ·rintro c h q ⟨b,d,e,f,a⟩;refine CB e ?_;rcases c with _|c;exact CA a;rw [IC.eq_2]at a;have r:=f.size;refine Rc 5 (Yl z (CJ z Ab (g.oj f)) (Ro 3 (Wf a f ?_)));intro a;refine Rc 8 (Il a (g.oj f) Ab As AI ?_);rintro o a _;refine Yl z (DF z z z) (Ro 10 ?_);intro h e;exact⟨c,nr,(min b o),(wrap .i64 (d+1)),e.sub z,f,a⟩
def fT(n:Nat)(a0:List Int):Option (List Int):=(Dm (([]:List Int)) a0 8).bind fun a=>some a
theorem AeM{d b:List Int}{e:Value}(a:fT n d=some b)(s:H<=w.heap.size)(f:AP (AH .i64) w H d e):
 Calls prog 167 [e].toArray w (Di fun o g=>∃h,o=h∧AA (AH .i64) g w.heap.size (Iv 0 0) 2 b h∧AD w g):=by
 have i:=AD.refl w;unfold fT at a;refine AB func167 z ntmps167 (Rc 9 ?_)
 rcases AK.nil_or (f.oj i)with ⟨rfl,hnil⟩|⟨p_,n_,c_,rfl⟩
 ·replace a:(some (([]:List Int)))=some b:=(by simpa [hnil,Dm] using a);refine Yl z (RC z Ab z z) (Ro 2 (WC.cond_t z (Rc 7 ?_)));cases BK a;exact Ne z z ⟨_,z,_,z,AA.nil _ _ _ _ _,i⟩
 ·refine Yl z (Sm z Ab z z) (Ro 2 (WC.cond_f z (Rc 4 (Ef z (BI (AH .i64) (([]:List Int)) [] z Ab Dl z z trivial) ?_))));rintro t u ⟨v,j,x,y,c,p⟩;have A:=c.size;have k:=BP j;clear j;have⟨B,q,a⟩:=AM a;refine Ro 1 (Ef z (Ay (c:=(AH .i64)) z Ab Dl z z z z z p (by omega) (f.oj c) q) ?_);rintro C D ⟨l,m⟩;have⟨r,E⟩:=Ge c m k;have F:=Je m l k;cases BK a;exact Ro 4 (Ne z z ⟨_,z,_,z,AA.base l,r⟩)
def JF(a0:List Int)(a1:Int)(k0:Int->Option Int):Nat->Int->Option Int
 |0,_=>none
 |m+1,a=>cond (decide (a<(a0.length:Int))) ((AG a0 a).bind fun b=>cond (a1==b) (some a) (JF a0 a1 k0 m (wrap .i64 (a+1)))) (k0 a)
def dW(n:Nat)(a0:List Int)(a1:Int):Option Int:=JF a0 a1 (fun a=>some (-1)) n 0
theorem AdV{f:List Int}{g i:Int}{j:Value}(a:dW n f g=some i)(m:H<=w.heap.size)(k:AP (AH .i64) w H f j):
 Calls prog 136 [j,.i g].toArray w (Ak (.i i) w):=by
 have l:=AD.refl w;unfold dW at a;refine AB func136 z ntmps136 (Rc 9 (Yl z (CJ z GS (k.oj l)) (Ro 4 ?_)));refine WC.loopD (fun b h wl=>∃c:Int,Kn 19 [(0,j),(1,.i g),(7,.i ((f.length:Int))),(8,.i c)] h∧AD w wl∧JF f g (fun c=>(some (-1))) b c=some i) n ?_ ?_
 ·intro h d;exact⟨0,d.sub z,AD.refl _,a⟩
 ·rintro b h o ⟨c,d,e,a⟩;refine CB d ?_;rcases b with _|b;exact CA a;rw [JF.eq_2]at a;have p:=e.size;refine Rc 6 (Wf a e ?_);intro a;refine Rc 15 (Il a (k.oj e) GS LG SH ?_);rintro q a _;refine Ro 3 (Wt a e ?_);intro a;refine Rc 8 ?_;intro h d;exact⟨b,nr,(wrap .i64 (c+1)),d.sub z,e,a⟩
def YY(n:Nat)(a0:Int):Option Bool:=some ((a0 !=a0))
theorem tH{a:Int}{b:Bool}(c:YY n a=some b):
 Calls prog 254 [.i a].toArray w (Ak (.bool b) w):=by
 have d:=AD.refl w;unfold YY at c;exact AB func254 z ntmps254 (ID c d)
def gC(n:Nat)(a0:Int)(a1:Int):Option Bool:=(YY n a0).bind fun b=>(cond b ((YY n a1).bind fun a=>some (!a)) (some false)).bind fun c=>some ((c||(decide (a0<a1))))
theorem AdX{b c:Int}{d:Bool}(a:gC n b c=some d):
 Calls prog 241 [.i b,.i c].toArray w (Ak (.bool d) w):=by
 have f:=AD.refl w;unfold gC at a;refine AB func241 z ntmps241 (Rc 8 (Cs a f Xt (fun _=>tH) ?_));rintro j a k l ⟨e,m⟩;refine Ro 1 (Fb 4 [0,1] 11 7 a ?_ ?_)
 ·intro g a;refine Ro 1 (Cs a e Xt (fun _=>tH) ?_);rintro o a p h ⟨q,r⟩;cases BK a;exact Ro 1 (Ro 1 (Dq h))
 intro g a;intro s H;have⟨i,t⟩:=Et e H;refine Ro 1 (uP 4 [] 16 12 ?_);exact DY a i
def Tl(n:Nat)(a0:Int):Option Bool:=some ((a0 !=a0))
theorem tV{a:Int}{b:Bool}(c:Tl n a=some b):
 Calls prog 242 [.i a].toArray w (Ak (.bool b) w):=by
 have d:=AD.refl w;unfold Tl at c;exact AB func242 z ntmps242 (ID c d)
def IH(n:Nat)(a0:List Int)(a1:Int)(k0:Int->Int->Option (Int×Bool)):Nat->Int->Int->Option (Int×Bool)
 |0,_,_=>none
 |m+1,a,b=>cond (decide (a<b)) ((AG a0 (wrap .i64 (Rv .u64 (IntKind.wrap IntKind.u64 (wrap .i64 (a+b))) 1))).bind fun d=>(gC n d a1).bind fun c=>cond c (IH n a0 a1 k0 m (wrap .i64 ((wrap .i64 (Rv .u64 (IntKind.wrap IntKind.u64 (wrap .i64 (a+b))) 1))+1)) b) (IH n a0 a1 k0 m a (wrap .i64 (Rv .u64 (IntKind.wrap IntKind.u64 (wrap .i64 (a+b))) 1)))) (k0 a b)
def Wa(n:Nat)(a0:List Int)(a1:Int):Option (Int×Bool):=IH n a0 a1 (fun a i=>(cond (decide (a<(a0.length:Int))) ((AG a0 a).bind fun g=>(cond (g==a1) (some true) ((AG a0 a).bind fun c=>(Tl n c).bind fun e=>(cond e ((Tl n a1).bind fun b=>some b) (some false)).bind fun f=>some f)).bind fun d=>some d) (some false)).bind fun h=>some (a,h)) n 0 ((a0.length:Int))
theorem AaN{f:List Int}{g:Int}{h:Int×Bool}{j:Value}(hF:Wa n f g=some h)(hH:H<=w.heap.size)(i:AP (AH .i64) w H f j):
 Calls prog 226 [j,.i g].toArray w (Di fun p q=>p= .tuple #[.i h.1,.bool h.2]∧AD w q):=by
 have r:=AD.refl w;unfold Wa at hF;refine AB func226 z ntmps226 (Rc 9 (Yl z (CJ z Ab (i.oj r)) (Ro 12 ?_)));have⟨s,t,hF⟩:=JW hF;refine WC.loopD (fun b c wl=>∃d e:Int,Kn 54 [(0,j),(1,.i g),(6,.i ((f.length:Int))),(7,.i d),(8,.i e)] c∧AD w wl∧IH n f g s b d e=some h) n ?_ ?_
 ·intro c hK;exact⟨0,((f.length:Int)),hK.sub z,AD.refl _,hF⟩
 ·rintro b c E ⟨d,e,hK,a,hF⟩;refine CB hK ?_;rcases b with _|b;exact CA hF;rw [IH.eq_2]at hF;have F:=a.size;refine Rc 8 (Wc z hF ?_ ?_)
  ·intro hF;refine Rc 8 (Yl z (OX z ud3 cJ z) (Yl z (jM z z z (by decide)) (Yl z (OX z cJ ud3 z) (Ro 7 (Il hF (i.oj a) Ab As AI ?_)))));rintro G hF _;refine Ro 1 (Cs hF a lY (fun _=>AdX) ?_);rintro I hF J k ⟨K,L⟩;refine Ro 2 (Wc z hF ?_ ?_)
   ·intro hF;refine Rc 7 ?_;intro c hK;exact⟨b,nr,(wrap .i64 ((wrap .i64 (Rv .u64 (IntKind.wrap IntKind.u64 (wrap .i64 (d+e))) 1))+1)),e,hK.sub z,(AD.trans a k),hF⟩
   ·intro hF;refine Rc 6 ?_;intro c hK;exact⟨b,nr,d,(wrap .i64 (Rv .u64 (IntKind.wrap IntKind.u64 (wrap .i64 (d+e))) 1)),hK.sub z,(AD.trans a k),hF⟩
  ·intro hF;refine Rc 3 ?_
   subst t
   refine Re 9 (Fb 18 [31] 53 35 hF ?_ ?_)
   ·intro u hF;refine Ro 2 (Il hF (i.oj a) Ab As AI ?_);rintro M hF _;refine Ro 3 (MH 10 [31,35] 52 42 hF ?_ ?_)
    ·intro v hF;refine Ro 2 (Il hF (i.oj a) Ab As AI ?_);rintro N hF _;refine Cs hF a Xx (fun _=>tV) ?_;rintro O hF P x ⟨l,Q⟩;refine Ro 1 (Fb 3 [31,35,42] 51 48 hF ?_ ?_)
     ·intro y hF;refine Ro 1 (Cs hF l Xx (fun _=>tV) ?_);rintro R hF S A ⟨T,U⟩;cases BK hF;exact Ro 1 (Dq A)
     intro y hF;intro V m;have⟨W,X⟩:=Et l m;cases BK hF;exact Ro 1 (TL.nil fun c B=>⟨B.sub z,(AD.trans x m)⟩)
    intro v hF;intro Y o;have⟨Z,a0⟩:=Et a o;cases BK hF;exact Ro 1 (Dq o)
   intro u hF;intro b0 C;have⟨D,c0⟩:=Et a C;exact DY hF D
end Go.Proofs.YtaijnchdfgojiaaGreatDoor
