/- The walks: every function that FnExactCheckTargets reaches computes the plain function that is typed beside it; no condition. -/
import Derived.Test.YtjpcjanfamdmiaaGreatDoorProg
import Derived.Test.YtjpcjanfamdmiaaGreatDoorDat
import Derived.Test.YtjpcjanfamdmiaaGreatDoorShelf
set_option linter.all false
set_option maxRecDepth 20000
set_option maxHeartbeats 40000000
namespace Go.Proofs.YtjpcjanfamdmiaaGreatDoor
open Go Go.RowKit Go.Eng Go.Proofs.Tryz
open Go.IntKind (wrap)
variable {n H:Nat} {w:World}
abbrev ud2:=@underlying2
abbrev iP:=@underlying3
abbrev sX:=@underlying4
abbrev ud5:=@underlying5
abbrev Ri:=@underlying9
abbrev Rv:=@underlying22
abbrev zO:=@underlying24
abbrev St:=@underlying25
abbrev Cj:=@underlying26
abbrev TC:=@underlying27
abbrev zY:=@underlying29
abbrev SZ:=@underlying30
abbrev AcB:=@underlying32
abbrev GA:=@underlying33
abbrev WK:=@underlying34
abbrev yZ:=@underlying36
abbrev yT:=@underlying38
abbrev Cz:=@underlying41
abbrev EA:=@underlying44
abbrev DV:=@underlying47
abbrev Ex:=@underlying48
abbrev Fp:=@underlying51
abbrev Da:=@underlying55
abbrev Ic:=@underlying74
abbrev Af:=@underlying85
abbrev GK:=@underlying86
abbrev pT:=@underlying118
abbrev JO:=@underlying122
abbrev Ik:=@underlying126
abbrev CU:=@underlying128
abbrev Bj:=@underlying129
abbrev sV:=@underlying143
abbrev Gq:=@underlying154
abbrev QT:=@underlying155
abbrev Nk:=@underlying170
abbrev Np:=@underlying171
abbrev tP:=@underlying173
abbrev tH:=@underlying175
abbrev pP:=@underlying178
abbrev Qv:=@underlying200
abbrev fC:=@underlying234
abbrev uG:=@underlying239
abbrev OF:=@underlying241
abbrev pK:=@underlying243
abbrev Mx:=@underlying249
abbrev Nx:=@underlying254
abbrev gP:=@underlying256
abbrev Ol:=@underlying259
abbrev qG:=@underlying282
theorem Tryz.hm:Tryz.prog.follows .mixedOrders=true:=by kernel_rfl
theorem XA:Bf prog 118=some true:=by kernel_rfl
theorem gQ:Bf prog 122=some false:=by kernel_rfl
theorem Cr:Bf prog 128=some false:=by kernel_rfl
theorem Cd:Bf prog 129=some false:=by kernel_rfl
theorem CI:Bf prog 131=some true:=by kernel_rfl
theorem Fs:Bf prog 133=some true:=by kernel_rfl
theorem HE:Bf prog 140=some true:=by kernel_rfl
theorem nQ:Bf prog 143=some true:=by kernel_rfl
theorem Vr:Bf prog 154=some false:=by kernel_rfl
theorem Wz:Bf prog 155=some false:=by kernel_rfl
theorem ZL:Bf prog 170=some false:=by kernel_rfl
theorem Vy:Bf prog 171=some false:=by kernel_rfl
theorem ZM:Bf prog 173=some true:=by kernel_rfl
theorem WA:Bf prog 175=some true:=by kernel_rfl
theorem ZV:Bf prog 178=some true:=by kernel_rfl
theorem HP:Bf prog 185=some true:=by kernel_rfl
theorem LG:Bf prog 188=some true:=by kernel_rfl
theorem AI:Bf prog 2=some false:=by kernel_rfl
theorem fJ:Bf prog 22=some false:=by kernel_rfl
theorem NA:Bf prog 222=some true:=by kernel_rfl
theorem JF:Bf prog 236=some true:=by kernel_rfl
theorem XW:Bf prog 239=some true:=by kernel_rfl
theorem fU:Bf prog 24=some true:=by kernel_rfl
theorem Pn:Bf prog 241=some false:=by kernel_rfl
theorem Zu:Bf prog 243=some true:=by kernel_rfl
theorem eZ:Bf prog 25=some false:=by kernel_rfl
theorem jG:Bf prog 256=some true:=by kernel_rfl
theorem GE:Bf prog 26=some false:=by kernel_rfl
theorem Wj:Bf prog 263=some true:=by kernel_rfl
theorem gH:Bf prog 27=some false:=by kernel_rfl
theorem WF:Bf prog 282=some true:=by kernel_rfl
theorem fM:Bf prog 29=some true:=by kernel_rfl
theorem Yg:Bf prog 3=some false:=by kernel_rfl
theorem gG:Bf prog 30=some false:=by kernel_rfl
theorem Qz:Bf prog 32=some true:=by kernel_rfl
theorem Gy:Bf prog 33=some false:=by kernel_rfl
theorem Tn:Bf prog 34=some false:=by kernel_rfl
theorem QC:Bf prog 36=some true:=by kernel_rfl
theorem Yp:Bf prog 38=some true:=by kernel_rfl
theorem Ed:Bf prog 4=some false:=by kernel_rfl
theorem ED:Bf prog 44=some false:=by kernel_rfl
theorem Ir:Bf prog 46=some true:=by kernel_rfl
theorem DP:Bf prog 47=some false:=by kernel_rfl
theorem FE:Bf prog 48=some false:=by kernel_rfl
theorem DZ:Bf prog 50=some true:=by kernel_rfl
theorem GD:Bf prog 51=some false:=by kernel_rfl
theorem Ct:Bf prog 53=some true:=by kernel_rfl
theorem CV:Bf prog 55=some false:=by kernel_rfl
theorem Fk:Bf prog 57=some true:=by kernel_rfl
theorem HV:Bf prog 59=some true:=by kernel_rfl
theorem FF:Bf prog 78=some true:=by kernel_rfl
theorem QD:Bf prog 80=some true:=by kernel_rfl
theorem Ot:Bf prog 84=some true:=by kernel_rfl
theorem Ad:Bf prog 85=some false:=by kernel_rfl
theorem DX:Bf prog 86=some false:=by kernel_rfl
theorem Dz:Bf prog 88=some true:=by kernel_rfl
theorem Dl:Bf prog 9=some false:=by kernel_rfl
theorem Pk:Am prog 118=some 4:=by kernel_rfl
theorem jD:Am prog 122=some 1:=by kernel_rfl
theorem iN:Am prog 128=some 1:=by kernel_rfl
theorem mG:Am prog 129=some 1:=by kernel_rfl
theorem BA:Am prog 131=some 7:=by kernel_rfl
theorem Ba:Am prog 133=some 3:=by kernel_rfl
theorem CT:Am prog 140=some 4:=by kernel_rfl
theorem ZB:Am prog 143=some 2:=by kernel_rfl
theorem YZ:Am prog 155=some 1:=by kernel_rfl
theorem PJ:Am prog 173=some 7:=by kernel_rfl
theorem PQ:Am prog 175=some 3:=by kernel_rfl
theorem PL:Am prog 178=some 3:=by kernel_rfl
theorem Cy:Am prog 185=some 3:=by kernel_rfl
theorem Pe:Am prog 187=some 4:=by kernel_rfl
theorem CO:Am prog 188=some 3:=by kernel_rfl
theorem Ap:Am prog 2=some 1:=by kernel_rfl
theorem FN:Am prog 222=some 4:=by kernel_rfl
theorem Bt:Am prog 236=some 4:=by kernel_rfl
theorem PN:Am prog 239=some 4:=by kernel_rfl
theorem fA:Am prog 24=some 1:=by kernel_rfl
theorem PH:Am prog 243=some 6:=by kernel_rfl
theorem Sh:Am prog 256=some 2:=by kernel_rfl
theorem uJ:Am prog 26=some 1:=by kernel_rfl
theorem MB:Am prog 263=some 2:=by kernel_rfl
theorem PS:Am prog 282=some 3:=by kernel_rfl
theorem gF:Am prog 29=some 3:=by kernel_rfl
theorem So:Am prog 3=some 1:=by kernel_rfl
theorem QR:Am prog 32=some 5:=by kernel_rfl
theorem rN:Am prog 33=some 1:=by kernel_rfl
theorem Qc:Am prog 36=some 3:=by kernel_rfl
theorem XD:Am prog 38=some 3:=by kernel_rfl
theorem Ku:Am prog 4=some 1:=by kernel_rfl
theorem qA:Am prog 44=some 1:=by kernel_rfl
theorem Gh:Am prog 46=some 1:=by kernel_rfl
theorem rK:Am prog 47=some 1:=by kernel_rfl
theorem tS:Am prog 48=some 1:=by kernel_rfl
theorem DL:Am prog 50=some 3:=by kernel_rfl
theorem tE:Am prog 51=some 1:=by kernel_rfl
theorem Ch:Am prog 53=some 5:=by kernel_rfl
theorem gO:Am prog 55=some 1:=by kernel_rfl
theorem Ez:Am prog 57=some 3:=by kernel_rfl
theorem Gt:Am prog 59=some 3:=by kernel_rfl
theorem BY:Am prog 78=some 2:=by kernel_rfl
theorem DJ:Am prog 80=some 3:=by kernel_rfl
theorem Fg:Am prog 84=some 4:=by kernel_rfl
theorem GQ:Am prog 85=some 1:=by kernel_rfl
theorem fE:Am prog 86=some 1:=by kernel_rfl
theorem BL:Am prog 88=some 6:=by kernel_rfl
theorem GW:Am prog 9=some 1:=by kernel_rfl
theorem Tm:dY prog 78 2=true:=by kernel_rfl
theorem Qh:AK prog 118 0=some 0:=by kernel_rfl
theorem Qt:AK prog 118 1=some 1:=by kernel_rfl
theorem Qj:AK prog 118 2=some 2:=by kernel_rfl
theorem Pp:AK prog 118 3=some 3:=by kernel_rfl
theorem Eh:AK prog 131 0=some 0:=by kernel_rfl
theorem Ek:AK prog 131 1=some 1:=by kernel_rfl
theorem Bk:AK prog 131 2=some 2:=by kernel_rfl
theorem Be:AK prog 131 3=some 3:=by kernel_rfl
theorem DS:AK prog 131 4=some 4:=by kernel_rfl
theorem Ha:AK prog 131 5=some 5:=by kernel_rfl
theorem Hd:AK prog 131 6=some 6:=by kernel_rfl
theorem HS:AK prog 133 0=some 0:=by kernel_rfl
theorem CY:AK prog 133 1=some 1:=by kernel_rfl
theorem Cf:AK prog 133 2=some 2:=by kernel_rfl
theorem EB:AK prog 140 0=some 0:=by kernel_rfl
theorem EG:AK prog 140 1=some 1:=by kernel_rfl
theorem FA:AK prog 140 2=some 2:=by kernel_rfl
theorem EC:AK prog 140 3=some 3:=by kernel_rfl
theorem XS:AK prog 143 0=some 0:=by kernel_rfl
theorem WZ:AK prog 143 1=some 1:=by kernel_rfl
theorem GM:AK prog 157 0=some 0:=by kernel_rfl
theorem Py:AK prog 157 1=some 5:=by kernel_rfl
theorem Lj:AK prog 157 2=some 6:=by kernel_rfl
theorem QO:AK prog 157 3=some 7:=by kernel_rfl
theorem Ra:AK prog 157 4=some 8:=by kernel_rfl
theorem Qx:AK prog 173 0=some 0:=by kernel_rfl
theorem Xt:AK prog 173 1=some 1:=by kernel_rfl
theorem QK:AK prog 173 2=some 2:=by kernel_rfl
theorem RD:AK prog 173 3=some 3:=by kernel_rfl
theorem Qn:AK prog 173 4=some 4:=by kernel_rfl
theorem XJ:AK prog 173 5=some 5:=by kernel_rfl
theorem Zn:AK prog 173 6=some 6:=by kernel_rfl
theorem Qp:AK prog 175 0=some 0:=by kernel_rfl
theorem Zf:AK prog 175 1=some 1:=by kernel_rfl
theorem Pq:AK prog 175 2=some 2:=by kernel_rfl
theorem RP:AK prog 178 0=some 0:=by kernel_rfl
theorem Ws:AK prog 178 1=some 1:=by kernel_rfl
theorem Yi:AK prog 178 2=some 2:=by kernel_rfl
theorem EQ:AK prog 185 0=some 0:=by kernel_rfl
theorem Dk:AK prog 185 1=some 1:=by kernel_rfl
theorem CF:AK prog 185 2=some 2:=by kernel_rfl
theorem Xy:AK prog 187 0=some 0:=by kernel_rfl
theorem Xl:AK prog 187 1=some 1:=by kernel_rfl
theorem ZE:AK prog 187 2=some 2:=by kernel_rfl
theorem Wd:AK prog 187 3=some 3:=by kernel_rfl
theorem HY:AK prog 188 0=some 0:=by kernel_rfl
theorem EE:AK prog 188 1=some 1:=by kernel_rfl
theorem ER:AK prog 188 2=some 2:=by kernel_rfl
theorem Nq:AK prog 222 0=some 0:=by kernel_rfl
theorem QX:AK prog 222 1=some 1:=by kernel_rfl
theorem JW:AK prog 222 2=some 2:=by kernel_rfl
theorem Nd:AK prog 222 3=some 3:=by kernel_rfl
theorem Fj:AK prog 236 0=some 0:=by kernel_rfl
theorem Fh:AK prog 236 1=some 1:=by kernel_rfl
theorem Es:AK prog 236 2=some 2:=by kernel_rfl
theorem CX:AK prog 236 3=some 3:=by kernel_rfl
theorem Qw:AK prog 239 0=some 0:=by kernel_rfl
theorem Wg:AK prog 239 1=some 1:=by kernel_rfl
theorem WW:AK prog 239 2=some 2:=by kernel_rfl
theorem XZ:AK prog 239 3=some 3:=by kernel_rfl
theorem XH:AK prog 243 0=some 0:=by kernel_rfl
theorem Ym:AK prog 243 1=some 1:=by kernel_rfl
theorem ZC:AK prog 243 2=some 2:=by kernel_rfl
theorem WY:AK prog 243 3=some 3:=by kernel_rfl
theorem RY:AK prog 243 4=some 4:=by kernel_rfl
theorem Pv:AK prog 243 5=some 5:=by kernel_rfl
theorem Tt:AK prog 24 0=some 0:=by kernel_rfl
theorem Pw:AK prog 263 0=some 0:=by kernel_rfl
theorem QS:AK prog 263 1=some 1:=by kernel_rfl
theorem Rh:AK prog 282 0=some 0:=by kernel_rfl
theorem RB:AK prog 282 1=some 1:=by kernel_rfl
theorem RR:AK prog 282 2=some 2:=by kernel_rfl
theorem Th:AK prog 29 0=some 0:=by kernel_rfl
theorem Tg:AK prog 29 1=some 1:=by kernel_rfl
theorem Tp:AK prog 29 2=some 2:=by kernel_rfl
theorem Te:AK prog 32 0=some 0:=by kernel_rfl
theorem UB:AK prog 32 1=some 1:=by kernel_rfl
theorem TT:AK prog 32 2=some 4:=by kernel_rfl
theorem TO:AK prog 36 0=some 0:=by kernel_rfl
theorem Ty:AK prog 36 1=some 1:=by kernel_rfl
theorem Ta:AK prog 36 2=some 2:=by kernel_rfl
theorem bY:AK prog 38 0=some 0:=by kernel_rfl
theorem eR:AK prog 38 1=some 1:=by kernel_rfl
theorem bP:AK prog 38 2=some 2:=by kernel_rfl
theorem CH:AK prog 46 0=some 0:=by kernel_rfl
theorem Bq:AK prog 50 0=some 0:=by kernel_rfl
theorem Dx:AK prog 50 1=some 1:=by kernel_rfl
theorem Cm:AK prog 50 2=some 2:=by kernel_rfl
theorem De:AK prog 53 0=some 0:=by kernel_rfl
theorem Bl:AK prog 53 1=some 1:=by kernel_rfl
theorem DO:AK prog 53 2=some 4:=by kernel_rfl
theorem EL:AK prog 57 0=some 0:=by kernel_rfl
theorem CG:AK prog 57 1=some 1:=by kernel_rfl
theorem Du:AK prog 57 2=some 2:=by kernel_rfl
theorem Lm:AK prog 59 0=some 0:=by kernel_rfl
theorem Ls:AK prog 59 1=some 1:=by kernel_rfl
theorem IH:AK prog 59 2=some 2:=by kernel_rfl
theorem Bb:AK prog 78 0=some 0:=by kernel_rfl
theorem BW:AK prog 78 1=some 1:=by kernel_rfl
theorem LV:AK prog 80 0=some 0:=by kernel_rfl
theorem Dw:AK prog 80 1=some 1:=by kernel_rfl
theorem Ht:AK prog 84 0=some 0:=by kernel_rfl
theorem Js:AK prog 84 1=some 1:=by kernel_rfl
theorem PZ:AK prog 84 2=some 2:=by kernel_rfl
theorem IL:AK prog 84 3=some 3:=by kernel_rfl
theorem Bo:AK prog 88 0=some 0:=by kernel_rfl
theorem Cb:AK prog 88 1=some 1:=by kernel_rfl
theorem Bv:AK prog 88 2=some 2:=by kernel_rfl
theorem DF:AK prog 88 3=some 3:=by kernel_rfl
theorem Db:AK prog 88 4=some 4:=by kernel_rfl
theorem EN:AK prog 88 5=some 5:=by kernel_rfl
theorem fR:AZ prog 10=true:=by kernel_rfl
theorem nM:AZ prog 100=true:=by kernel_rfl
theorem ID:AZ prog 101=true:=by kernel_rfl
theorem lM:AZ prog 102=true:=by kernel_rfl
theorem lN:AZ prog 103=true:=by kernel_rfl
theorem nD:AZ prog 104=true:=by kernel_rfl
theorem Do:AZ prog 105=true:=by kernel_rfl
theorem gS:AZ prog 106=true:=by kernel_rfl
theorem gW:AZ prog 107=true:=by kernel_rfl
theorem iZ:AZ prog 108=true:=by kernel_rfl
theorem jP:AZ prog 109=true:=by kernel_rfl
theorem Xr:AZ prog 11=true:=by kernel_rfl
theorem PU:AZ prog 110=true:=by kernel_rfl
theorem iT:AZ prog 113=true:=by kernel_rfl
theorem iU:AZ prog 114=true:=by kernel_rfl
theorem SW:AZ prog 115=true:=by kernel_rfl
theorem kF:AZ prog 116=true:=by kernel_rfl
theorem mJ:AZ prog 117=true:=by kernel_rfl
theorem jH:AZ prog 118=true:=by kernel_rfl
theorem Ie:AZ prog 119=true:=by kernel_rfl
theorem sY:AZ prog 12=true:=by kernel_rfl
theorem NK:AZ prog 120=true:=by kernel_rfl
theorem mM:AZ prog 121=true:=by kernel_rfl
theorem kX:AZ prog 122=true:=by kernel_rfl
theorem jM:AZ prog 123=true:=by kernel_rfl
theorem nJ:AZ prog 124=true:=by kernel_rfl
theorem kW:AZ prog 125=true:=by kernel_rfl
theorem nB:AZ prog 126=true:=by kernel_rfl
theorem Sg:AZ prog 127=true:=by kernel_rfl
theorem Wr:AZ prog 128=true:=by kernel_rfl
theorem jZ:AZ prog 129=true:=by kernel_rfl
theorem pF:AZ prog 13=true:=by kernel_rfl
theorem kV:AZ prog 130=true:=by kernel_rfl
theorem iK:AZ prog 131=true:=by kernel_rfl
theorem nS:AZ prog 132=true:=by kernel_rfl
theorem NO:AZ prog 133=true:=by kernel_rfl
theorem iB:AZ prog 134=true:=by kernel_rfl
theorem lR:AZ prog 135=true:=by kernel_rfl
theorem MU:AZ prog 136=true:=by kernel_rfl
theorem YK:AZ prog 137=true:=by kernel_rfl
theorem kS:AZ prog 138=true:=by kernel_rfl
theorem lP:AZ prog 139=true:=by kernel_rfl
theorem pU:AZ prog 14=true:=by kernel_rfl
theorem mN:AZ prog 140=true:=by kernel_rfl
theorem XU:AZ prog 141=true:=by kernel_rfl
theorem Vf:AZ prog 142=true:=by kernel_rfl
theorem lX:AZ prog 143=true:=by kernel_rfl
theorem nZ:AZ prog 144=true:=by kernel_rfl
theorem lZ:AZ prog 145=true:=by kernel_rfl
theorem mB:AZ prog 146=true:=by kernel_rfl
theorem Kw:AZ prog 147=true:=by kernel_rfl
theorem lQ:AZ prog 149=true:=by kernel_rfl
theorem pY:AZ prog 15=true:=by kernel_rfl
theorem iC:AZ prog 150=true:=by kernel_rfl
theorem ZH:AZ prog 151=true:=by kernel_rfl
theorem nT:AZ prog 152=true:=by kernel_rfl
theorem kT:AZ prog 153=true:=by kernel_rfl
theorem jJ:AZ prog 154=true:=by kernel_rfl
theorem SD:AZ prog 155=true:=by kernel_rfl
theorem gX:AZ prog 156=true:=by kernel_rfl
theorem mF:AZ prog 157=true:=by kernel_rfl
theorem gZ:AZ prog 158=true:=by kernel_rfl
theorem kA:AZ prog 159=true:=by kernel_rfl
theorem tB:AZ prog 16=true:=by kernel_rfl
theorem iX:AZ prog 160=true:=by kernel_rfl
theorem WP:AZ prog 161=true:=by kernel_rfl
theorem iI:AZ prog 162=true:=by kernel_rfl
theorem iY:AZ prog 163=true:=by kernel_rfl
theorem jC:AZ prog 164=true:=by kernel_rfl
theorem MP:AZ prog 165=true:=by kernel_rfl
theorem lU:AZ prog 166=true:=by kernel_rfl
theorem mZ:AZ prog 167=true:=by kernel_rfl
theorem iO:AZ prog 168=true:=by kernel_rfl
theorem kI:AZ prog 169=true:=by kernel_rfl
theorem eX:AZ prog 17=true:=by kernel_rfl
theorem iM:AZ prog 170=true:=by kernel_rfl
theorem lT:AZ prog 171=true:=by kernel_rfl
theorem Zl:AZ prog 172=true:=by kernel_rfl
theorem ZS:AZ prog 173=true:=by kernel_rfl
theorem iD:AZ prog 174=true:=by kernel_rfl
theorem Yy:AZ prog 175=true:=by kernel_rfl
theorem lL:AZ prog 176=true:=by kernel_rfl
theorem nC:AZ prog 178=true:=by kernel_rfl
theorem jN:AZ prog 179=true:=by kernel_rfl
theorem sL:AZ prog 18=true:=by kernel_rfl
theorem ZR:AZ prog 180=true:=by kernel_rfl
theorem jS:AZ prog 181=true:=by kernel_rfl
theorem mD:AZ prog 182=true:=by kernel_rfl
theorem jE:AZ prog 183=true:=by kernel_rfl
theorem WL:AZ prog 184=true:=by kernel_rfl
theorem mI:AZ prog 185=true:=by kernel_rfl
theorem Nw:AZ prog 186=true:=by kernel_rfl
theorem lK:AZ prog 187=true:=by kernel_rfl
theorem ZF:AZ prog 188=true:=by kernel_rfl
theorem nH:AZ prog 189=true:=by kernel_rfl
theorem tL:AZ prog 19=true:=by kernel_rfl
theorem kE:AZ prog 190=true:=by kernel_rfl
theorem kJ:AZ prog 191=true:=by kernel_rfl
theorem mU:AZ prog 192=true:=by kernel_rfl
theorem jU:AZ prog 193=true:=by kernel_rfl
theorem WS:AZ prog 194=true:=by kernel_rfl
theorem Xa:AZ prog 195=true:=by kernel_rfl
theorem jQ:AZ prog 196=true:=by kernel_rfl
theorem HM:AZ prog 197=true:=by kernel_rfl
theorem hY:AZ prog 198=true:=by kernel_rfl
theorem Xm:AZ prog 199=true:=by kernel_rfl
theorem uD:AZ prog 20=true:=by kernel_rfl
theorem nR:AZ prog 200=true:=by kernel_rfl
theorem jX:AZ prog 201=true:=by kernel_rfl
theorem gV:AZ prog 202=true:=by kernel_rfl
theorem mY:AZ prog 203=true:=by kernel_rfl
theorem YF:AZ prog 204=true:=by kernel_rfl
theorem oA:AZ prog 205=true:=by kernel_rfl
theorem Xf:AZ prog 206=true:=by kernel_rfl
theorem gT:AZ prog 207=true:=by kernel_rfl
theorem lC:AZ prog 208=true:=by kernel_rfl
theorem hE:AZ prog 209=true:=by kernel_rfl
theorem oR:AZ prog 21=true:=by kernel_rfl
theorem lI:AZ prog 210=true:=by kernel_rfl
theorem Zc:AZ prog 211=true:=by kernel_rfl
theorem nV:AZ prog 212=true:=by kernel_rfl
theorem mX:AZ prog 213=true:=by kernel_rfl
theorem SI:AZ prog 214=true:=by kernel_rfl
theorem kR:AZ prog 215=true:=by kernel_rfl
theorem jL:AZ prog 216=true:=by kernel_rfl
theorem fB:AZ prog 22=true:=by kernel_rfl
theorem Sa:AZ prog 225=true:=by kernel_rfl
theorem nU:AZ prog 226=true:=by kernel_rfl
theorem ZZ:AZ prog 227=true:=by kernel_rfl
theorem YM:AZ prog 228=true:=by kernel_rfl
theorem rW:AZ prog 23=true:=by kernel_rfl
theorem mP:AZ prog 234=true:=by kernel_rfl
theorem mT:AZ prog 235=true:=by kernel_rfl
theorem lV:AZ prog 236=true:=by kernel_rfl
theorem mV:AZ prog 237=true:=by kernel_rfl
theorem lW:AZ prog 238=true:=by kernel_rfl
theorem mA:AZ prog 239=true:=by kernel_rfl
theorem oV:AZ prog 24=true:=by kernel_rfl
theorem lA:AZ prog 243=true:=by kernel_rfl
theorem XX:AZ prog 244=true:=by kernel_rfl
theorem mE:AZ prog 248=true:=by kernel_rfl
theorem fV:AZ prog 25=true:=by kernel_rfl
theorem YP:AZ prog 26=true:=by kernel_rfl
theorem tK:AZ prog 27=true:=by kernel_rfl
theorem DK:AZ prog 28=true:=by kernel_rfl
theorem rB:AZ prog 29=true:=by kernel_rfl
theorem pE:AZ prog 30=true:=by kernel_rfl
theorem sK:AZ prog 31=true:=by kernel_rfl
theorem pA:AZ prog 32=true:=by kernel_rfl
theorem fS:AZ prog 33=true:=by kernel_rfl
theorem oP:AZ prog 34=true:=by kernel_rfl
theorem pH:AZ prog 35=true:=by kernel_rfl
theorem oL:AZ prog 36=true:=by kernel_rfl
theorem tX:AZ prog 37=true:=by kernel_rfl
theorem qV:AZ prog 38=true:=by kernel_rfl
theorem tI:AZ prog 39=true:=by kernel_rfl
theorem zK:AZ prog 4=true:=by kernel_rfl
theorem rY:AZ prog 40=true:=by kernel_rfl
theorem gJ:AZ prog 41=true:=by kernel_rfl
theorem sP:AZ prog 42=true:=by kernel_rfl
theorem oY:AZ prog 43=true:=by kernel_rfl
theorem rE:AZ prog 44=true:=by kernel_rfl
theorem tC:AZ prog 45=true:=by kernel_rfl
theorem fF:AZ prog 46=true:=by kernel_rfl
theorem tM:AZ prog 47=true:=by kernel_rfl
theorem rQ:AZ prog 48=true:=by kernel_rfl
theorem rA:AZ prog 49=true:=by kernel_rfl
theorem vY:AZ prog 5=true:=by kernel_rfl
theorem tA:AZ prog 50=true:=by kernel_rfl
theorem rX:AZ prog 51=true:=by kernel_rfl
theorem qX:AZ prog 52=true:=by kernel_rfl
theorem sS:AZ prog 53=true:=by kernel_rfl
theorem pM:AZ prog 54=true:=by kernel_rfl
theorem qW:AZ prog 55=true:=by kernel_rfl
theorem qZ:AZ prog 56=true:=by kernel_rfl
theorem rM:AZ prog 57=true:=by kernel_rfl
theorem XN:AZ prog 58=true:=by kernel_rfl
theorem gE:AZ prog 59=true:=by kernel_rfl
theorem vQ:AZ prog 6=true:=by kernel_rfl
theorem rJ:AZ prog 60=true:=by kernel_rfl
theorem qD:AZ prog 61=true:=by kernel_rfl
theorem uA:AZ prog 62=true:=by kernel_rfl
theorem uF:AZ prog 63=true:=by kernel_rfl
theorem pC:AZ prog 64=true:=by kernel_rfl
theorem sT:AZ prog 65=true:=by kernel_rfl
theorem sF:AZ prog 66=true:=by kernel_rfl
theorem rS:AZ prog 67=true:=by kernel_rfl
theorem fL:AZ prog 68=true:=by kernel_rfl
theorem qM:AZ prog 69=true:=by kernel_rfl
theorem bR:AZ prog 7=true:=by kernel_rfl
theorem fX:AZ prog 70=true:=by kernel_rfl
theorem uT:AZ prog 71=true:=by kernel_rfl
theorem fH:AZ prog 72=true:=by kernel_rfl
theorem pZ:AZ prog 73=true:=by kernel_rfl
theorem uI:AZ prog 74=true:=by kernel_rfl
theorem XV:AZ prog 75=true:=by kernel_rfl
theorem MZ:AZ prog 76=true:=by kernel_rfl
theorem fK:AZ prog 77=true:=by kernel_rfl
theorem rR:AZ prog 78=true:=by kernel_rfl
theorem uP:AZ prog 79=true:=by kernel_rfl
theorem eM:AZ prog 8=true:=by kernel_rfl
theorem sI:AZ prog 80=true:=by kernel_rfl
theorem tJ:AZ prog 81=true:=by kernel_rfl
theorem sJ:AZ prog 82=true:=by kernel_rfl
theorem rI:AZ prog 83=true:=by kernel_rfl
theorem tQ:AZ prog 84=true:=by kernel_rfl
theorem rD:AZ prog 85=true:=by kernel_rfl
theorem uB:AZ prog 86=true:=by kernel_rfl
theorem Lv:AZ prog 87=true:=by kernel_rfl
theorem oT:AZ prog 88=true:=by kernel_rfl
theorem qC:AZ prog 89=true:=by kernel_rfl
theorem mK:AZ prog 9=true:=by kernel_rfl
theorem pR:AZ prog 90=true:=by kernel_rfl
theorem Lr:AZ prog 91=true:=by kernel_rfl
theorem sO:AZ prog 92=true:=by kernel_rfl
theorem uC:AZ prog 93=true:=by kernel_rfl
theorem oO:AZ prog 94=true:=by kernel_rfl
theorem qY:AZ prog 95=true:=by kernel_rfl
theorem qO:AZ prog 96=true:=by kernel_rfl
theorem tO:AZ prog 97=true:=by kernel_rfl
theorem sW:AZ prog 98=true:=by kernel_rfl
theorem tW:AZ prog 99=true:=by kernel_rfl
theorem iS:Ca prog 131=some ([.string ByteArray.empty, .i 0, .slice none 0 0, .slice none 0 0, .slice none 0 0, .i 0, .i 0],7,112):=by kernel_rfl
theorem lH:Ca prog 133=some ([.string ByteArray.empty, .i 0, .slice none 0 0],3,48):=by kernel_rfl
theorem kK:Ca prog 140=some ([.slice none 0 0, .slice none 0 0, .slice none 0 0, .slice none 0 0],4,96):=by kernel_rfl
theorem kG:Ca prog 185=some ([.slice none 0 0, .slice none 0 0, .slice none 0 0],3,72):=by kernel_rfl
theorem Nm:Ca prog 187=some ([.i 0, .i 0, .i 0, .bool false],4,32):=by kernel_rfl
theorem mQ:Ca prog 188=some ([.string ByteArray.empty, .i 0, .i 0],3,32):=by kernel_rfl
theorem GU:Ca prog 2=some ([.i 0],1,8):=by kernel_rfl
theorem PT:Ca prog 222=some ([.i 0, .i 0, .i 0, .bool false],4,32):=by kernel_rfl
theorem Nh:Ca prog 227=some ([.i 0, .i 0, .i 0, .i 0],4,32):=by kernel_rfl
theorem iR:Ca prog 236=some ([.string ByteArray.empty, .i 0, .i 0, .bool false],4,40):=by kernel_rfl
theorem Ni:Ca prog 256=some ([.i 0, .i 0],2,16):=by kernel_rfl
theorem Za:Ca prog 263=some ([.i 0, .i 0],2,16):=by kernel_rfl
theorem AcQ:Ca prog 3=some ([.i 0],1,8):=by kernel_rfl
theorem AcA:Ca prog 4=some ([.bool false],1,1):=by kernel_rfl
theorem vJ:Ca prog 5=some ([.int .u8 0],1,1):=by kernel_rfl
theorem tU:Ca prog 78=some ([.i 0, .i 0],2,16):=by kernel_rfl
theorem Ln:Ca prog 80=some ([.i 0, .i 0, .i 0],3,24):=by kernel_rfl
theorem NV:Ca prog 84=some ([.i 0, .i 0, .i 0, .i 0],4,32):=by kernel_rfl
theorem Od:Ca prog 85=some ([.slice none 0 0],1,24):=by kernel_rfl
theorem uE:Ca prog 88=some ([.i 0, .i 0, .i 0, .i 0, .slice none 0 0, .slice none 0 0],6,80):=by kernel_rfl
theorem Ko:Ca prog 9=some ([.string ByteArray.empty],1,16):=by kernel_rfl
theorem Td:∀(a0:Int) (a1:Int),cD prog 78 [.i a0, .i a1]=true:=by intros;kernel_rfl
theorem kC:EK prog 157=some [(0,5),(5,1),(6,1),(7,1),(8,1),(9,1)]:=by kernel_rfl
theorem Xz:EK prog 187=some [(0,1),(1,1),(2,1),(3,1)]:=by kernel_rfl
theorem Vc:EK prog 222=some [(0,1),(1,1),(2,1),(3,1)]:=by kernel_rfl
theorem Yk:EK prog 227=some [(0,1),(1,1),(2,1),(3,1)]:=by kernel_rfl
theorem Ft:EK prog 256=some [(0,1),(1,1)]:=by kernel_rfl
theorem TF:EK prog 263=some [(0,1),(1,1)]:=by kernel_rfl
theorem Ip:EK prog 78=some [(0,1),(1,1)]:=by kernel_rfl
theorem fT:EK prog 80=some [(0,1),(1,2)]:=by kernel_rfl
theorem XY:EK prog 84=some [(0,1),(1,1),(2,1),(3,1)]:=by kernel_rfl
theorem Tk:EK prog 88=some [(0,1),(1,1),(2,1),(3,1),(4,1),(5,1)]:=by kernel_rfl
theorem NF:DM prog 131=some [.string ByteArray.empty, .i 0, .slice none 0 0, .slice none 0 0, .slice none 0 0, .i 0, .i 0]:=by kernel_rfl
theorem JM:DM prog 133=some [.string ByteArray.empty, .i 0, .slice none 0 0]:=by kernel_rfl
theorem NW:DM prog 140=some [.slice none 0 0, .slice none 0 0, .slice none 0 0, .slice none 0 0]:=by kernel_rfl
theorem mC:DM prog 157=some [.slice none 0 0, .slice none 0 0, .slice none 0 0, .slice none 0 0, .slice none 0 0, .slice none 0 0, .slice none 0 0, .slice none 0 0, .slice none 0 0, .slice none 0 0]:=by kernel_rfl
theorem YC:DM prog 185=some [.slice none 0 0, .slice none 0 0, .slice none 0 0]:=by kernel_rfl
theorem XQ:DM prog 187=some [.i 0, .i 0, .i 0, .bool false]:=by kernel_rfl
theorem Nu:DM prog 188=some [.string ByteArray.empty, .i 0, .i 0]:=by kernel_rfl
theorem NZ:DM prog 222=some [.i 0, .i 0, .i 0, .bool false]:=by kernel_rfl
theorem Yb:DM prog 227=some [.i 0, .i 0, .i 0, .i 0]:=by kernel_rfl
theorem My:DM prog 236=some [.string ByteArray.empty, .i 0, .i 0, .bool false]:=by kernel_rfl
theorem FJ:DM prog 256=some [.i 0, .i 0]:=by kernel_rfl
theorem Nt:DM prog 263=some [.i 0, .i 0]:=by kernel_rfl
theorem eW:DM prog 46=some [.slice none 0 0]:=by kernel_rfl
theorem fP:DM prog 50=some [.slice none 0 0, .slice none 0 0, .slice none 0 0]:=by kernel_rfl
theorem XE:DM prog 53=some [.slice none 0 0, .slice none 0 0, .slice none 0 0, .slice none 0 0, .slice none 0 0]:=by kernel_rfl
theorem Xn:DM prog 57=some [.slice none 0 0, .slice none 0 0, .slice none 0 0]:=by kernel_rfl
theorem gC:DM prog 59=some [.i 0, .i 0, .i 0]:=by kernel_rfl
theorem En:DM prog 78=some [.i 0, .i 0]:=by kernel_rfl
theorem Yz:DM prog 80=some [.i 0, .i 0, .i 0]:=by kernel_rfl
theorem RC:DM prog 84=some [.i 0, .i 0, .i 0, .i 0]:=by kernel_rfl
theorem Ew:DM prog 88=some [.i 0, .i 0, .i 0, .i 0, .slice none 0 0, .slice none 0 0]:=by kernel_rfl
def YV(n:Nat)(a0_s:ByteArray)(a1_cutset:ByteArray):Option ByteArray:=if a0_s.size<=9223372036854775807∧a1_cutset.size<4294967281∧(a1_cutset.data.toList.all fun b=>decide (b.toNat<128))=true then some ⟨(Lib.trimS a0_s.data.toList a1_cutset.data.toList).toArray⟩else none
theorem yW{n:Nat}{a0_s a1_cutset c:ByteArray}{w:World}(a:YV n a0_s a1_cutset=some c):
 Calls prog 209 [.string a0_s, .string a1_cutset].toArray w (DA fun d e=>d= .string c∧AJ w e):=by
 unfold YV at a
 split at a
 ·rename_i b
  obtain rfl:=Option.some.inj a
  refine(strings_Trim_ascii a0_s a1_cutset w b.1 b.2.1 (fun g f hb=>of_decide_eq_true (List.all_eq_true.1 b.2.2 f (List.mem_of_getElem? hb)))).mono ?_
  rintro h w' ⟨rfl,hB⟩
  exact⟨_,z,z,hB⟩
 ·cases a
def kO(n:Nat)(a0_s:ByteArray)(a1_c:Int):Option Int:=some (Lib.indexByte a0_s.data.toList a1_c.toNat.toUInt8)
theorem wG{n:Nat}{a0_s:ByteArray}{a1_c a:Int}{w:World}(b:kO n a0_s a1_c=some a):
 Calls prog 210 [.string a0_s, .int .u8 a1_c].toArray w (DA fun c d=>c= .i a∧AJ w d):=by
 obtain rfl:=Option.some.inj b
 refine(strings_IndexByte a0_s a1_c w).mono ?_
 rintro e w' ⟨rfl,rfl⟩
 exact⟨_,z,z,AJ.refl _⟩
def Gl(a0:List ByteArray)(a1:ByteArray)(k0:Int->Option Int):Nat->Int->Option Int
 |0,_=>none
 |m+1,a=>cond (decide (a<(a0.length:Int))) ((AE a0 a).bind fun b=>cond (a1.toList==b.toList) (some a) (Gl a0 a1 k0 m (wrap .i64 (a+1)))) (k0 a)
def dI(n:Nat)(a0:List ByteArray)(a1:ByteArray):Option Int:=Gl a0 a1 (fun a=>some (-1)) n 0
theorem zA{f:List ByteArray}{g:ByteArray}{i:Int}{j:Value}(a:dI n f g=some i)(m:H<=w.heap.size)(k:AR At w H f j):
 Calls prog 215 [j,.string g].toArray w (Ao (.i i) w):=by
 have l:=AJ.refl w;unfold dI at a;refine AA func215 z ntmps215 (Rc 9 (Yl z (Bs z Cj (k.oj l)) (Ro 4 ?_)));refine WC.loopD (fun b h wl=>∃c:Int,Kn 19 [(0,j),(1,.string g),(7,.i ((f.length:Int))),(8,.i c)] h∧AJ w wl∧Gl f g (fun c=>(some (-1))) b c=some i) n ?_ ?_
 ·intro h d;exact⟨0,d.sub z,AJ.refl _,a⟩
 ·rintro b h o ⟨c,d,e,a⟩;refine By d ?_;rcases b with _|b;exact Bx a;rw [Gl.eq_2]at a;have p:=e.size;refine Rc 6 (Wf a e ?_);intro a;refine Rc 15 (Il a (k.oj e) Cj GW Dl ?_);rintro q a _;refine Ro 3 (Wt a e ?_);intro a;refine Rc 8 ?_;intro h d;exact⟨b,nr,(wrap .i64 (c+1)),d.sub z,e,a⟩
def XI(n:Nat)(a0:List ByteArray)(a1:ByteArray):Option Bool:=(dI n a0 a1).bind fun a=>some (decide (a>=0))
theorem yY{b:List ByteArray}{c:ByteArray}{d:Bool}{e:Value}(a:XI n b c=some d)(j:H<=w.heap.size)(g:AR At w H b e):
 Calls prog 203 [e,.string c].toArray w (Ao (.bool d) w):=by
 have f:=AJ.refl w;unfold XI at a;refine AA func203 z ntmps203 (Rc 9 (Cs a f kR (fun _ h=>(zA h (by omega) (g.oj f):)) ?_));rintro k a l m ⟨i,o⟩;exact DW a i
def IF(a0:List Int)(k0:Int->Int->Option Int):Nat->Int->Int->Option Int
 |0,_,_=>none
 |m+1,b,a=>cond (decide (a<(a0.length:Int))) ((AE a0 a).bind fun c=>IF a0 k0 m (min b c) (wrap .i64 (a+1))) (k0 b a)
def Wx(n:Nat)(a0:List Int):Option Int:=cond (decide ((a0.length:Int)<1)) none ((AE a0 0).bind fun c=>IF a0 (fun a b=>some a) n c 1)
theorem AbN{i:List Int}{j:Int}{k:Value}(a:Wx n i=some j)(p:H<=w.heap.size)(g:AR (AL .i64) w H i k):
 Calls prog 237 [k].toArray w (Ao (.i j) w):=by
 have l:=AJ.refl w;unfold Wx at a;refine AA func237 z ntmps237 (Rc 9 (Yl z (Bs z Af (g.oj l)) (Ro 3 (Wc z a ?_ ?_))))
 ·intro a;cases a
 ·intro a;refine Rc 5 (Il a (g.oj l) Af Ap AI ?_);rintro m a _;refine Ro 10 (WC.loopD (fun c h wl=>∃b d:Int,Kn 25 [(0,k),(3,.i b),(4,.i d)] h∧AJ w wl∧IF i (fun b d=>(some b)) c b d=some j) n ?_ ?_)
  ·intro h e;exact⟨m,1,e.sub z,AJ.refl _,a⟩
  ·rintro c h q ⟨b,d,e,f,a⟩;refine By e ?_;rcases c with _|c;exact Bx a;rw [IF.eq_2]at a;have r:=f.size;refine Rc 5 (Yl z (Bs z Af (g.oj f)) (Ro 3 (Wf a f ?_)));intro a;refine Rc 8 (Il a (g.oj f) Af Ap AI ?_);rintro o a _;refine Yl z (Ff z z z) (Ro 10 ?_);intro h e;exact⟨c,nr,(min b o),(wrap .i64 (d+1)),e.sub z,f,a⟩
def cZ(n:Nat)(a0:List Int):Option (List Int):=(Dj (([]:List Int)) a0 8).bind fun a=>some a
theorem zX{d b:List Int}{e:Value}(a:cZ n d=some b)(s:H<=w.heap.size)(f:AR (AL .i64) w H d e):
 Calls prog 167 [e].toArray w (DA fun o g=>∃h,o=h∧AB (AL .i64) g w.heap.size (Iv 0 0) 2 b h∧AJ w g):=by
 have i:=AJ.refl w;unfold cZ at a;refine AA func167 z ntmps167 (Rc 9 ?_)
 rcases AD.nil_or (f.oj i)with ⟨rfl,hnil⟩|⟨p_,n_,c_,rfl⟩
 ·replace a:(some (([]:List Int)))=some b:=(by simpa [hnil,Dj] using a);refine Yl z (Pu z Af z z) (Ro 2 (WC.cond_t z (Rc 7 ?_)));cases BQ a;exact Ne z z ⟨_,z,_,z,AB.nil _ _ _ _ _,i⟩
 ·refine Yl z (Rg z Af z z) (Ro 2 (WC.cond_f z (Rc 4 (Ef z (BM (AL .i64) (([]:List Int)) [] z Af GU z z trivial) ?_))));rintro t u ⟨v,j,x,y,c,p⟩;have A:=c.size;have k:=BT j;clear j;have⟨B,q,a⟩:=AH a;refine Ro 1 (Ef z (BB (c:=(AL .i64)) z Af GU z z z z z p (by omega) (f.oj c) q) ?_);rintro C D ⟨l,m⟩;have⟨r,E⟩:=Ge c m k;have F:=MX m l k;cases BQ a;exact Ro 4 (Ne z z ⟨_,z,_,z,AB.base l,r⟩)
def QJ(n:Nat)(a0:Int):Option Bool:=some ((a0 !=a0))
theorem bO{a:Int}{b:Bool}(c:QJ n a=some b):
 Calls prog 110 [.i a].toArray w (Ao (.bool b) w):=by
 have d:=AJ.refl w;unfold QJ at c;exact AA func110 z ntmps110 (Iy c d)
def bH(n:Nat)(a0:Int)(a1:Int):Option Bool:=(QJ n a0).bind fun b=>(cond b ((QJ n a1).bind fun a=>some (!a)) (some false)).bind fun c=>some ((c||(decide (a0<a1))))
theorem vN{b c:Int}{d:Bool}(a:bH n b c=some d):
 Calls prog 205 [.i b,.i c].toArray w (Ao (.bool d) w):=by
 have f:=AJ.refl w;unfold bH at a;refine AA func205 z ntmps205 (Rc 8 (Cs a f PU (fun _=>bO) ?_));rintro j a k l ⟨e,m⟩;refine Ro 1 (FO 4 [0,1] 11 7 a ?_ ?_)
 ·intro g a;refine Ro 1 (Cs a e PU (fun _=>bO) ?_);rintro o a p h ⟨q,r⟩;cases BQ a;exact Ro 1 (Ro 1 (DU h))
 intro g a;intro s H;have⟨i,t⟩:=Et e H;refine Ro 1 (jT 4 [] 16 12 ?_);exact DW a i
def Rs(n:Nat)(a0:Int):Option Bool:=some ((a0 !=a0))
theorem qH{a:Int}{b:Bool}(c:Rs n a=some b):
 Calls prog 206 [.i a].toArray w (Ao (.bool b) w):=by
 have d:=AJ.refl w;unfold Rs at c;exact AA func206 z ntmps206 (Iy c d)
def Hf(n:Nat)(a0:List Int)(a1:Int)(k0:Int->Int->Option (Int×Bool)):Nat->Int->Int->Option (Int×Bool)
 |0,_,_=>none
 |m+1,a,b=>cond (decide (a<b)) ((AE a0 (wrap .i64 (KY .u64 (IntKind.wrap IntKind.u64 (wrap .i64 (a+b))) 1))).bind fun d=>(bH n d a1).bind fun c=>cond c (Hf n a0 a1 k0 m (wrap .i64 ((wrap .i64 (KY .u64 (IntKind.wrap IntKind.u64 (wrap .i64 (a+b))) 1))+1)) b) (Hf n a0 a1 k0 m a (wrap .i64 (KY .u64 (IntKind.wrap IntKind.u64 (wrap .i64 (a+b))) 1)))) (k0 a b)
def UM(n:Nat)(a0:List Int)(a1:Int):Option (Int×Bool):=Hf n a0 a1 (fun a i=>(cond (decide (a<(a0.length:Int))) ((AE a0 a).bind fun g=>(cond (g==a1) (some true) ((AE a0 a).bind fun c=>(Rs n c).bind fun e=>(cond e ((Rs n a1).bind fun b=>some b) (some false)).bind fun f=>some f)).bind fun d=>some d) (some false)).bind fun h=>some (a,h)) n 0 ((a0.length:Int))
theorem AbD{f:List Int}{g:Int}{h:Int×Bool}{j:Value}(hF:UM n f g=some h)(hH:H<=w.heap.size)(i:AR (AL .i64) w H f j):
 Calls prog 193 [j,.i g].toArray w (DA fun p q=>p= .tuple #[.i h.1,.bool h.2]∧AJ w q):=by
 have r:=AJ.refl w;unfold UM at hF;refine AA func193 z ntmps193 (Rc 9 (Yl z (Bs z Af (i.oj r)) (Ro 12 ?_)));have⟨s,t,hF⟩:=La hF;refine WC.loopD (fun b c wl=>∃d e:Int,Kn 54 [(0,j),(1,.i g),(6,.i ((f.length:Int))),(7,.i d),(8,.i e)] c∧AJ w wl∧Hf n f g s b d e=some h) n ?_ ?_
 ·intro c hK;exact⟨0,((f.length:Int)),hK.sub z,AJ.refl _,hF⟩
 ·rintro b c E ⟨d,e,hK,a,hF⟩;refine By hK ?_;rcases b with _|b;exact Bx hF;rw [Hf.eq_2]at hF;have F:=a.size;refine Rc 8 (Wc z hF ?_ ?_)
  ·intro hF;refine Rc 8 (Yl z (Hb z iP Qv z) (Yl z (Tz z z z (by decide)) (Yl z (Hb z Qv iP z) (Ro 7 (Il hF (i.oj a) Af Ap AI ?_)))));rintro G hF _;refine Ro 1 (Cs hF a oA (fun _=>vN) ?_);rintro I hF J k ⟨K,L⟩;refine Ro 2 (Wc z hF ?_ ?_)
   ·intro hF;refine Rc 7 ?_;intro c hK;exact⟨b,nr,(wrap .i64 ((wrap .i64 (KY .u64 (IntKind.wrap IntKind.u64 (wrap .i64 (d+e))) 1))+1)),e,hK.sub z,(AJ.trans a k),hF⟩
   ·intro hF;refine Rc 6 ?_;intro c hK;exact⟨b,nr,d,(wrap .i64 (KY .u64 (IntKind.wrap IntKind.u64 (wrap .i64 (d+e))) 1)),hK.sub z,(AJ.trans a k),hF⟩
  ·intro hF;refine Rc 3 ?_
   subst t
   refine Re 9 (FO 18 [31] 53 35 hF ?_ ?_)
   ·intro u hF;refine Ro 2 (Il hF (i.oj a) Af Ap AI ?_);rintro M hF _;refine Ro 3 (Lz 10 [31,35] 52 42 hF ?_ ?_)
    ·intro v hF;refine Ro 2 (Il hF (i.oj a) Af Ap AI ?_);rintro N hF _;refine Cs hF a Xf (fun _=>qH) ?_;rintro O hF P x ⟨l,Q⟩;refine Ro 1 (FO 3 [31,35,42] 51 48 hF ?_ ?_)
     ·intro y hF;refine Ro 1 (Cs hF l Xf (fun _=>qH) ?_);rintro R hF S A ⟨T,U⟩;cases BQ hF;exact Ro 1 (DU A)
     intro y hF;intro V m;have⟨W,X⟩:=Et l m;cases BQ hF;exact Ro 1 (TL.nil fun c B=>⟨B.sub z,(AJ.trans x m)⟩)
    intro v hF;intro Y o;have⟨Z,a0⟩:=Et a o;cases BQ hF;exact Ro 1 (DU o)
   intro u hF;intro b0 C;have⟨D,c0⟩:=Et a C;exact DW hF D
def eP(n:Nat)(a0:Int)(a1:Int):Option Int:=(QJ n a0).bind fun b=>(QJ n a1).bind fun a=>cond b (cond a (some 0) (some (-1))) (cond a (some 1) (cond (decide (a0<a1)) (some (-1)) (cond (decide (a0>a1)) (some 1) (some 0))))
theorem wY{c d e:Int}(a:eP n c d=some e):
 Calls prog 73 [.i c,.i d].toArray w (Ao (.i e) w):=by
 have f:=AJ.refl w;unfold eP at a;refine AA func73 z ntmps73 (Rc 8 (Cs a f PU (fun _=>bO) ?_));rintro h a i H ⟨g,j⟩;refine Ro 6 (Cs a g PU (fun _=>bO) ?_);rintro k a l m ⟨b,o⟩;refine Ro 9 (Wc z a ?_ ?_)
 ·intro a;refine Rc 6 (Wt a b ?_);intro a;exact Iy a b
 ·intro a;refine Rc 8 (Wt a b ?_);intro a;refine Rc 10 (Wt a b ?_);intro a;refine Rc 10 (Wt a b ?_);intro a;exact Iy a b
end Go.Proofs.YtjpcjanfamdmiaaGreatDoor
