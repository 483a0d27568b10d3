/- The walks: every function that FnGatingShift reaches computes the plain function that is typed beside it; no condition. -/
import Derived.Test.YthojemmmflaicacGreatDoorProg
import Derived.Test.YthojemmmflaicacGreatDoorDat
import Derived.Test.YthojemmmflaicacGreatDoorShelf
set_option linter.all false
set_option maxRecDepth 20000
set_option maxHeartbeats 40000000
namespace Go.Proofs.YthojemmmflaicacGreatDoor
open Go Go.RowKit Go.Eng Go.Proofs.Tryz
open Go.IntKind (wrap)
variable {n H:Nat} {w:World}
abbrev Wn:=@underlying2
abbrev rC:=@underlying3
abbrev mO:=@underlying4
abbrev Wv:=@underlying5
abbrev Tn:=@underlying9
abbrev KD:=@underlying22
abbrev ZZ:=@underlying26
abbrev IB:=@underlying27
abbrev ET:=@underlying30
abbrev CE:=@underlying31
abbrev GL:=@underlying32
abbrev FR:=@underlying35
abbrev CT:=@underlying38
abbrev DZ:=@underlying39
abbrev TW:=@underlying58
abbrev Aa:=@underlying61
abbrev MH:=@underlying68
abbrev Fg:=@underlying69
abbrev NN:=@underlying70
abbrev ES:=@underlying81
abbrev FP:=@underlying82
abbrev Vf:=@underlying89
abbrev II:=@underlying94
abbrev EB:=@underlying102
abbrev IS:=@underlying135
abbrev Nz:=@underlying173
abbrev Nk:=@underlying178
abbrev Yk:=@underlying180
theorem Tryz.hm:Tryz.prog.follows .mixedOrders=true:=by kernel_rfl
theorem Rq:Ch prog 105=some true:=by kernel_rfl
theorem Ob:Ch prog 113=some true:=by kernel_rfl
theorem Ru:Ch prog 117=some true:=by kernel_rfl
theorem FH:Ch prog 134=some true:=by kernel_rfl
theorem Dw:Ch prog 135=some false:=by kernel_rfl
theorem Ft:Ch prog 137=some true:=by kernel_rfl
theorem RO:Ch prog 143=some true:=by kernel_rfl
theorem HG:Ch prog 146=some true:=by kernel_rfl
theorem ZY:Ch prog 180=some true:=by kernel_rfl
theorem Pe:Ch prog 186=some true:=by kernel_rfl
theorem AM:Ch prog 2=some false:=by kernel_rfl
theorem Sn:Ch prog 22=some false:=by kernel_rfl
theorem KR:Ch prog 229=some true:=by kernel_rfl
theorem UD:Ch prog 26=some false:=by kernel_rfl
theorem Fh:Ch prog 27=some false:=by kernel_rfl
theorem Jo:Ch prog 29=some true:=by kernel_rfl
theorem Pc:Ch prog 3=some false:=by kernel_rfl
theorem ER:Ch prog 30=some false:=by kernel_rfl
theorem IG:Ch prog 31=some false:=by kernel_rfl
theorem GO:Ch prog 32=some false:=by kernel_rfl
theorem Cm:Ch prog 34=some true:=by kernel_rfl
theorem EJ:Ch prog 35=some false:=by kernel_rfl
theorem Aw:Ch prog 37=some true:=by kernel_rfl
theorem Ep:Ch prog 38=some false:=by kernel_rfl
theorem Cx:Ch prog 39=some false:=by kernel_rfl
theorem Ci:Ch prog 4=some false:=by kernel_rfl
theorem CQ:Ch prog 41=some true:=by kernel_rfl
theorem Ec:Ch prog 43=some true:=by kernel_rfl
theorem Dc:Ch prog 45=some true:=by kernel_rfl
theorem Xk:Ch prog 5=some false:=by kernel_rfl
theorem BC:Ch prog 61=some false:=by kernel_rfl
theorem ZB:Ch prog 68=some false:=by kernel_rfl
theorem Yy:Ch prog 69=some false:=by kernel_rfl
theorem iJ:Ch prog 70=some false:=by kernel_rfl
theorem CI:Ch prog 75=some true:=by kernel_rfl
theorem EO:Ch prog 81=some false:=by kernel_rfl
theorem Gy:Ch prog 82=some false:=by kernel_rfl
theorem CU:Ch prog 84=some true:=by kernel_rfl
theorem NH:Ch prog 86=some true:=by kernel_rfl
theorem Ee:Ch prog 9=some false:=by kernel_rfl
theorem De:Ch prog 93=some true:=by kernel_rfl
theorem EI:BP prog 105=some 4:=by kernel_rfl
theorem Fv:BP prog 113=some 4:=by kernel_rfl
theorem Dk:BP prog 117=some 5:=by kernel_rfl
theorem DF:BP prog 134=some 4:=by kernel_rfl
theorem CG:BP prog 137=some 6:=by kernel_rfl
theorem EW:BP prog 143=some 3:=by kernel_rfl
theorem CD:BP prog 146=some 4:=by kernel_rfl
theorem Rx:BP prog 180=some 2:=by kernel_rfl
theorem Dm:BP prog 186=some 4:=by kernel_rfl
theorem BD:BP prog 2=some 1:=by kernel_rfl
theorem FU:BP prog 229=some 3:=by kernel_rfl
theorem Yq:BP prog 26=some 1:=by kernel_rfl
theorem gJ:BP prog 27=some 1:=by kernel_rfl
theorem Hd:BP prog 29=some 1:=by kernel_rfl
theorem Pk:BP prog 3=some 1:=by kernel_rfl
theorem iT:BP prog 32=some 1:=by kernel_rfl
theorem CR:BP prog 34=some 3:=by kernel_rfl
theorem iH:BP prog 35=some 1:=by kernel_rfl
theorem Ak:BP prog 37=some 5:=by kernel_rfl
theorem fO:BP prog 39=some 1:=by kernel_rfl
theorem Ce:BP prog 4=some 1:=by kernel_rfl
theorem BZ:BP prog 41=some 3:=by kernel_rfl
theorem DL:BP prog 43=some 4:=by kernel_rfl
theorem CO:BP prog 45=some 3:=by kernel_rfl
theorem Xp:BP prog 5=some 1:=by kernel_rfl
theorem He:BP prog 61=some 1:=by kernel_rfl
theorem Yo:BP prog 69=some 1:=by kernel_rfl
theorem gB:BP prog 70=some 1:=by kernel_rfl
theorem At:BP prog 75=some 2:=by kernel_rfl
theorem Yz:BP prog 81=some 1:=by kernel_rfl
theorem VB:BP prog 82=some 1:=by kernel_rfl
theorem Be:BP prog 84=some 7:=by kernel_rfl
theorem DY:BP prog 86=some 3:=by kernel_rfl
theorem HJ:BP prog 9=some 1:=by kernel_rfl
theorem Br:BP prog 93=some 5:=by kernel_rfl
theorem SR:XR prog 75 2=true:=by kernel_rfl
theorem IH:Ad prog 105 0=some 0:=by kernel_rfl
theorem QP:Ad prog 105 1=some 1:=by kernel_rfl
theorem MF:Ad prog 105 2=some 2:=by kernel_rfl
theorem ME:Ad prog 105 3=some 3:=by kernel_rfl
theorem OD:Ad prog 113 0=some 0:=by kernel_rfl
theorem QW:Ad prog 113 1=some 1:=by kernel_rfl
theorem Jx:Ad prog 113 2=some 2:=by kernel_rfl
theorem Nl:Ad prog 113 3=some 3:=by kernel_rfl
theorem IK:Ad prog 117 0=some 0:=by kernel_rfl
theorem EA:Ad prog 117 1=some 1:=by kernel_rfl
theorem Fe:Ad prog 117 2=some 3:=by kernel_rfl
theorem GP:Ad prog 134 0=some 0:=by kernel_rfl
theorem FX:Ad prog 134 1=some 1:=by kernel_rfl
theorem IF:Ad prog 134 2=some 2:=by kernel_rfl
theorem Np:Ad prog 134 3=some 3:=by kernel_rfl
theorem Da:Ad prog 137 0=some 0:=by kernel_rfl
theorem Dd:Ad prog 137 1=some 1:=by kernel_rfl
theorem Cb:Ad prog 137 2=some 2:=by kernel_rfl
theorem Df:Ad prog 137 3=some 3:=by kernel_rfl
theorem FA:Ad prog 137 4=some 4:=by kernel_rfl
theorem Ew:Ad prog 137 5=some 5:=by kernel_rfl
theorem QZ:Ad prog 143 0=some 0:=by kernel_rfl
theorem GW:Ad prog 143 1=some 1:=by kernel_rfl
theorem IT:Ad prog 143 2=some 2:=by kernel_rfl
theorem Dp:Ad prog 146 0=some 0:=by kernel_rfl
theorem FB:Ad prog 146 1=some 1:=by kernel_rfl
theorem GM:Ad prog 146 2=some 2:=by kernel_rfl
theorem DK:Ad prog 146 3=some 3:=by kernel_rfl
theorem MT:Ad prog 186 0=some 0:=by kernel_rfl
theorem MD:Ad prog 186 1=some 1:=by kernel_rfl
theorem IR:Ad prog 186 2=some 2:=by kernel_rfl
theorem Dx:Ad prog 186 3=some 3:=by kernel_rfl
theorem KK:Ad prog 229 0=some 0:=by kernel_rfl
theorem ID:Ad prog 229 1=some 1:=by kernel_rfl
theorem Db:Ad prog 229 2=some 2:=by kernel_rfl
theorem DR:Ad prog 29 0=some 0:=by kernel_rfl
theorem Cp:Ad prog 34 0=some 0:=by kernel_rfl
theorem En:Ad prog 34 1=some 1:=by kernel_rfl
theorem Dg:Ad prog 34 2=some 2:=by kernel_rfl
theorem GI:Ad prog 37 0=some 0:=by kernel_rfl
theorem Bw:Ad prog 37 1=some 1:=by kernel_rfl
theorem CX:Ad prog 37 2=some 4:=by kernel_rfl
theorem DG:Ad prog 41 0=some 0:=by kernel_rfl
theorem CM:Ad prog 41 1=some 1:=by kernel_rfl
theorem FC:Ad prog 41 2=some 2:=by kernel_rfl
theorem Gt:Ad prog 43 0=some 0:=by kernel_rfl
theorem GH:Ad prog 43 1=some 1:=by kernel_rfl
theorem GD:Ad prog 43 2=some 2:=by kernel_rfl
theorem GE:Ad prog 43 3=some 3:=by kernel_rfl
theorem FE:Ad prog 45 0=some 0:=by kernel_rfl
theorem FV:Ad prog 45 1=some 1:=by kernel_rfl
theorem Dq:Ad prog 45 2=some 2:=by kernel_rfl
theorem Sm:Ad prog 52 0=some 0:=by kernel_rfl
theorem NT:Ad prog 52 1=some 1:=by kernel_rfl
theorem MN:Ad prog 52 2=some 2:=by kernel_rfl
theorem XY:Ad prog 72 0=some 0:=by kernel_rfl
theorem SN:Ad prog 72 1=some 5:=by kernel_rfl
theorem NZ:Ad prog 72 2=some 6:=by kernel_rfl
theorem SQ:Ad prog 72 3=some 7:=by kernel_rfl
theorem Sg:Ad prog 72 4=some 8:=by kernel_rfl
theorem Bj:Ad prog 75 0=some 0:=by kernel_rfl
theorem Bl:Ad prog 75 1=some 1:=by kernel_rfl
theorem MQ:Ad prog 84 0=some 0:=by kernel_rfl
theorem NV:Ad prog 84 1=some 1:=by kernel_rfl
theorem CW:Ad prog 84 2=some 2:=by kernel_rfl
theorem Di:Ad prog 84 3=some 3:=by kernel_rfl
theorem Ds:Ad prog 84 4=some 4:=by kernel_rfl
theorem SV:Ad prog 84 5=some 5:=by kernel_rfl
theorem SW:Ad prog 84 6=some 6:=by kernel_rfl
theorem Sa:Ad prog 86 0=some 0:=by kernel_rfl
theorem EP:Ad prog 86 1=some 1:=by kernel_rfl
theorem Cw:Ad prog 86 2=some 2:=by kernel_rfl
theorem SI:Ad prog 91 0=some 0:=by kernel_rfl
theorem NY:Ad prog 91 1=some 1:=by kernel_rfl
theorem Hl:Ad prog 91 2=some 2:=by kernel_rfl
theorem SD:Ad prog 93 0=some 0:=by kernel_rfl
theorem MS:Ad prog 93 1=some 1:=by kernel_rfl
theorem MG:Ad prog 93 2=some 2:=by kernel_rfl
theorem MJ:Ad prog 93 3=some 3:=by kernel_rfl
theorem MR:Ad prog 93 4=some 4:=by kernel_rfl
theorem gQ:Au prog 10=true:=by kernel_rfl
theorem bY:Au prog 100=true:=by kernel_rfl
theorem Zy:Au prog 101=true:=by kernel_rfl
theorem bP:Au prog 102=true:=by kernel_rfl
theorem aC:Au prog 103=true:=by kernel_rfl
theorem cH:Au prog 104=true:=by kernel_rfl
theorem VR:Au prog 105=true:=by kernel_rfl
theorem WJ:Au prog 106=true:=by kernel_rfl
theorem cE:Au prog 107=true:=by kernel_rfl
theorem aX:Au prog 108=true:=by kernel_rfl
theorem Rh:Au prog 109=true:=by kernel_rfl
theorem dL:Au prog 11=true:=by kernel_rfl
theorem Mm:Au prog 110=true:=by kernel_rfl
theorem ON:Au prog 111=true:=by kernel_rfl
theorem RJ:Au prog 112=true:=by kernel_rfl
theorem Nm:Au prog 113=true:=by kernel_rfl
theorem aQ:Au prog 114=true:=by kernel_rfl
theorem cB:Au prog 115=true:=by kernel_rfl
theorem Zu:Au prog 116=true:=by kernel_rfl
theorem aS:Au prog 117=true:=by kernel_rfl
theorem Zr:Au prog 118=true:=by kernel_rfl
theorem ZO:Au prog 119=true:=by kernel_rfl
theorem BA:Au prog 12=true:=by kernel_rfl
theorem ZU:Au prog 120=true:=by kernel_rfl
theorem bJ:Au prog 121=true:=by kernel_rfl
theorem bO:Au prog 122=true:=by kernel_rfl
theorem Oc:Au prog 123=true:=by kernel_rfl
theorem ZN:Au prog 124=true:=by kernel_rfl
theorem VH:Au prog 125=true:=by kernel_rfl
theorem aG:Au prog 126=true:=by kernel_rfl
theorem cA:Au prog 127=true:=by kernel_rfl
theorem Zc:Au prog 128=true:=by kernel_rfl
theorem aV:Au prog 129=true:=by kernel_rfl
theorem Yi:Au prog 13=true:=by kernel_rfl
theorem bG:Au prog 130=true:=by kernel_rfl
theorem Pd:Au prog 131=true:=by kernel_rfl
theorem ZP:Au prog 132=true:=by kernel_rfl
theorem OO:Au prog 133=true:=by kernel_rfl
theorem bC:Au prog 134=true:=by kernel_rfl
theorem OX:Au prog 135=true:=by kernel_rfl
theorem UG:Au prog 136=true:=by kernel_rfl
theorem Zl:Au prog 137=true:=by kernel_rfl
theorem ZQ:Au prog 138=true:=by kernel_rfl
theorem Zg:Au prog 139=true:=by kernel_rfl
theorem ZK:Au prog 14=true:=by kernel_rfl
theorem Zv:Au prog 140=true:=by kernel_rfl
theorem Ua:Au prog 141=true:=by kernel_rfl
theorem Zn:Au prog 142=true:=by kernel_rfl
theorem aT:Au prog 143=true:=by kernel_rfl
theorem aP:Au prog 144=true:=by kernel_rfl
theorem Rs:Au prog 145=true:=by kernel_rfl
theorem Le:Au prog 146=true:=by kernel_rfl
theorem Lz:Au prog 147=true:=by kernel_rfl
theorem bA:Au prog 148=true:=by kernel_rfl
theorem cM:Au prog 149=true:=by kernel_rfl
theorem dR:Au prog 15=true:=by kernel_rfl
theorem cD:Au prog 150=true:=by kernel_rfl
theorem UR:Au prog 151=true:=by kernel_rfl
theorem ZV:Au prog 152=true:=by kernel_rfl
theorem Mi:Au prog 153=true:=by kernel_rfl
theorem aF:Au prog 154=true:=by kernel_rfl
theorem Hw:Au prog 155=true:=by kernel_rfl
theorem Tq:Au prog 156=true:=by kernel_rfl
theorem WN:Au prog 157=true:=by kernel_rfl
theorem aU:Au prog 158=true:=by kernel_rfl
theorem VA:Au prog 159=true:=by kernel_rfl
theorem ZL:Au prog 16=true:=by kernel_rfl
theorem Nr:Au prog 160=true:=by kernel_rfl
theorem Um:Au prog 161=true:=by kernel_rfl
theorem aJ:Au prog 162=true:=by kernel_rfl
theorem Yv:Au prog 17=true:=by kernel_rfl
theorem ZW:Au prog 171=true:=by kernel_rfl
theorem RN:Au prog 172=true:=by kernel_rfl
theorem bX:Au prog 173=true:=by kernel_rfl
theorem UF:Au prog 174=true:=by kernel_rfl
theorem bL:Au prog 175=true:=by kernel_rfl
theorem bW:Au prog 176=true:=by kernel_rfl
theorem Ty:Au prog 177=true:=by kernel_rfl
theorem Ut:Au prog 178=true:=by kernel_rfl
theorem Wl:Au prog 179=true:=by kernel_rfl
theorem gP:Au prog 18=true:=by kernel_rfl
theorem aB:Au prog 180=true:=by kernel_rfl
theorem bK:Au prog 186=true:=by kernel_rfl
theorem bB:Au prog 187=true:=by kernel_rfl
theorem bH:Au prog 188=true:=by kernel_rfl
theorem bR:Au prog 189=true:=by kernel_rfl
theorem Yg:Au prog 19=true:=by kernel_rfl
theorem Zk:Au prog 190=true:=by kernel_rfl
theorem bN:Au prog 191=true:=by kernel_rfl
theorem bQ:Au prog 192=true:=by kernel_rfl
theorem aK:Au prog 196=true:=by kernel_rfl
theorem WK:Au prog 197=true:=by kernel_rfl
theorem UC:Au prog 198=true:=by kernel_rfl
theorem iA:Au prog 20=true:=by kernel_rfl
theorem Zt:Au prog 202=true:=by kernel_rfl
theorem Dj:Au prog 21=true:=by kernel_rfl
theorem ZH:Au prog 22=true:=by kernel_rfl
theorem PI:Au prog 23=true:=by kernel_rfl
theorem SM:Au prog 24=true:=by kernel_rfl
theorem fN:Au prog 25=true:=by kernel_rfl
theorem jM:Au prog 26=true:=by kernel_rfl
theorem gH:Au prog 27=true:=by kernel_rfl
theorem gU:Au prog 28=true:=by kernel_rfl
theorem jT:Au prog 29=true:=by kernel_rfl
theorem eO:Au prog 30=true:=by kernel_rfl
theorem KB:Au prog 31=true:=by kernel_rfl
theorem hY:Au prog 32=true:=by kernel_rfl
theorem iQ:Au prog 33=true:=by kernel_rfl
theorem jB:Au prog 34=true:=by kernel_rfl
theorem So:Au prog 35=true:=by kernel_rfl
theorem GV:Au prog 36=true:=by kernel_rfl
theorem jA:Au prog 37=true:=by kernel_rfl
theorem SF:Au prog 38=true:=by kernel_rfl
theorem dU:Au prog 39=true:=by kernel_rfl
theorem mW:Au prog 4=true:=by kernel_rfl
theorem Qd:Au prog 40=true:=by kernel_rfl
theorem eX:Au prog 41=true:=by kernel_rfl
theorem jN:Au prog 42=true:=by kernel_rfl
theorem OE:Au prog 43=true:=by kernel_rfl
theorem hE:Au prog 44=true:=by kernel_rfl
theorem PM:Au prog 45=true:=by kernel_rfl
theorem eN:Au prog 46=true:=by kernel_rfl
theorem gC:Au prog 47=true:=by kernel_rfl
theorem jK:Au prog 48=true:=by kernel_rfl
theorem PC:Au prog 49=true:=by kernel_rfl
theorem qJ:Au prog 5=true:=by kernel_rfl
theorem ZF:Au prog 50=true:=by kernel_rfl
theorem Yf:Au prog 51=true:=by kernel_rfl
theorem SZ:Au prog 52=true:=by kernel_rfl
theorem eL:Au prog 53=true:=by kernel_rfl
theorem Ur:Au prog 54=true:=by kernel_rfl
theorem Oy:Au prog 55=true:=by kernel_rfl
theorem QY:Au prog 56=true:=by kernel_rfl
theorem Sb:Au prog 57=true:=by kernel_rfl
theorem Sf:Au prog 58=true:=by kernel_rfl
theorem Yh:Au prog 59=true:=by kernel_rfl
theorem qE:Au prog 6=true:=by kernel_rfl
theorem eA:Au prog 60=true:=by kernel_rfl
theorem iM:Au prog 61=true:=by kernel_rfl
theorem gM:Au prog 62=true:=by kernel_rfl
theorem Oz:Au prog 63=true:=by kernel_rfl
theorem Uq:Au prog 64=true:=by kernel_rfl
theorem eI:Au prog 65=true:=by kernel_rfl
theorem fH:Au prog 66=true:=by kernel_rfl
theorem jI:Au prog 67=true:=by kernel_rfl
theorem ZM:Au prog 68=true:=by kernel_rfl
theorem Yw:Au prog 69=true:=by kernel_rfl
theorem aE:Au prog 7=true:=by kernel_rfl
theorem gD:Au prog 70=true:=by kernel_rfl
theorem UI:Au prog 71=true:=by kernel_rfl
theorem Ou:Au prog 72=true:=by kernel_rfl
theorem eQ:Au prog 73=true:=by kernel_rfl
theorem iL:Au prog 74=true:=by kernel_rfl
theorem SC:Au prog 75=true:=by kernel_rfl
theorem VS:Au prog 76=true:=by kernel_rfl
theorem ZA:Au prog 77=true:=by kernel_rfl
theorem gV:Au prog 78=true:=by kernel_rfl
theorem eD:Au prog 79=true:=by kernel_rfl
theorem nQ:Au prog 8=true:=by kernel_rfl
theorem hD:Au prog 80=true:=by kernel_rfl
theorem fL:Au prog 81=true:=by kernel_rfl
theorem dO:Au prog 82=true:=by kernel_rfl
theorem WM:Au prog 83=true:=by kernel_rfl
theorem dJ:Au prog 84=true:=by kernel_rfl
theorem UX:Au prog 85=true:=by kernel_rfl
theorem gZ:Au prog 86=true:=by kernel_rfl
theorem jL:Au prog 87=true:=by kernel_rfl
theorem dM:Au prog 88=true:=by kernel_rfl
theorem QT:Au prog 89=true:=by kernel_rfl
theorem lS:Au prog 9=true:=by kernel_rfl
theorem Yu:Au prog 90=true:=by kernel_rfl
theorem eH:Au prog 91=true:=by kernel_rfl
theorem jE:Au prog 92=true:=by kernel_rfl
theorem dW:Au prog 93=true:=by kernel_rfl
theorem Yt:Au prog 94=true:=by kernel_rfl
theorem fS:Au prog 95=true:=by kernel_rfl
theorem iY:Au prog 96=true:=by kernel_rfl
theorem fZ:Au prog 97=true:=by kernel_rfl
theorem PB:Au prog 98=true:=by kernel_rfl
theorem jU:Au prog 99=true:=by kernel_rfl
theorem Nj:DP prog 105=some ([.i 0, .i 0, .i 0, .bool false],4,32):=by kernel_rfl
theorem PS:DP prog 113=some ([.i 0, .i 0, .i 0, .bool false],4,32):=by kernel_rfl
theorem RY:DP prog 117=some ([.i 0, .i 0, .i 0, .i 0, .i 0],5,40):=by kernel_rfl
theorem Kb:DP prog 134=some ([.i 0, .i 0, .i 0, .i 0],4,32):=by kernel_rfl
theorem Mx:DP prog 137=some ([.i 0, .i 0, .i 0, .i 0, .slice none 0 0, .slice none 0 0],6,80):=by kernel_rfl
theorem LS:DP prog 143=some ([.string ByteArray.empty, .i 0, .i 0],3,32):=by kernel_rfl
theorem RL:DP prog 146=some ([.slice none 0 0, .slice none 0 0, .slice none 0 0, .slice none 0 0],4,96):=by kernel_rfl
theorem Nt:DP prog 180=some ([.i 0, .i 0],2,16):=by kernel_rfl
theorem Mf:DP prog 186=some ([.string ByteArray.empty, .i 0, .i 0, .bool false],4,40):=by kernel_rfl
theorem Bh:DP prog 2=some ([.i 0],1,8):=by kernel_rfl
theorem cJ:DP prog 229=some ([.slice none 0 0, .slice none 0 0, .slice none 0 0],3,72):=by kernel_rfl
theorem kP:DP prog 3=some ([.i 0],1,8):=by kernel_rfl
theorem NQ:DP prog 4=some ([.bool false],1,1):=by kernel_rfl
theorem VI:DP prog 43=some ([.i 0, .i 0, .i 0, .i 0],4,32):=by kernel_rfl
theorem aZ:DP prog 5=some ([.int .u8 0],1,1):=by kernel_rfl
theorem Ox:DP prog 61=some ([.slice none 0 0],1,24):=by kernel_rfl
theorem LJ:DP prog 75=some ([.i 0, .i 0],2,16):=by kernel_rfl
theorem jD:DP prog 84=some ([.string ByteArray.empty, .i 0, .slice none 0 0, .slice none 0 0, .slice none 0 0, .i 0, .i 0],7,112):=by kernel_rfl
theorem Wh:DP prog 86=some ([.string ByteArray.empty, .i 0, .slice none 0 0],3,48):=by kernel_rfl
theorem Ej:DP prog 9=some ([.string ByteArray.empty],1,16):=by kernel_rfl
theorem Sc:∀(a0:Int) (a1:Int),YJ prog 75 [.i a0, .i a1]=true:=by intros;kernel_rfl
theorem WX:CZ prog 105=some [(0,1),(1,1),(2,1),(3,1)]:=by kernel_rfl
theorem VJ:CZ prog 113=some [(0,1),(1,1),(2,1),(3,1)]:=by kernel_rfl
theorem PZ:CZ prog 117=some [(0,1),(1,2),(3,2)]:=by kernel_rfl
theorem RF:CZ prog 134=some [(0,1),(1,1),(2,1),(3,1)]:=by kernel_rfl
theorem WO:CZ prog 137=some [(0,1),(1,1),(2,1),(3,1),(4,1),(5,1)]:=by kernel_rfl
theorem Ny:CZ prog 143=some [(0,1),(1,1),(2,1)]:=by kernel_rfl
theorem VU:CZ prog 146=some [(0,1),(1,1),(2,1),(3,1)]:=by kernel_rfl
theorem Gf:CZ prog 180=some [(0,1),(1,1)]:=by kernel_rfl
theorem OS:CZ prog 186=some [(0,1),(1,1),(2,1),(3,1)]:=by kernel_rfl
theorem bD:CZ prog 229=some [(0,1),(1,1),(2,1)]:=by kernel_rfl
theorem gO:CZ prog 29=some [(0,1)]:=by kernel_rfl
theorem We:CZ prog 34=some [(0,1),(1,1),(2,1)]:=by kernel_rfl
theorem fB:CZ prog 37=some [(0,1),(1,3),(4,1)]:=by kernel_rfl
theorem MK:CZ prog 41=some [(0,1),(1,1),(2,1)]:=by kernel_rfl
theorem ZG:CZ prog 43=some [(0,1),(1,1),(2,1),(3,1)]:=by kernel_rfl
theorem VM:CZ prog 45=some [(0,1),(1,1),(2,1)]:=by kernel_rfl
theorem fX:CZ prog 52=some [(0,1),(1,1),(2,1)]:=by kernel_rfl
theorem jC:CZ prog 72=some [(0,5),(5,1),(6,1),(7,1),(8,1),(9,1)]:=by kernel_rfl
theorem Fo:CZ prog 75=some [(0,1),(1,1)]:=by kernel_rfl
theorem ZI:CZ prog 84=some [(0,1),(1,1),(2,1),(3,1),(4,1),(5,1),(6,1)]:=by kernel_rfl
theorem fM:CZ prog 86=some [(0,1),(1,1),(2,1)]:=by kernel_rfl
theorem dQ:CZ prog 91=some [(0,1),(1,1),(2,1)]:=by kernel_rfl
theorem FL:CZ prog 93=some [(0,1),(1,1),(2,1),(3,1),(4,1)]:=by kernel_rfl
theorem Pv:Dr prog 105=some [.i 0, .i 0, .i 0, .bool false]:=by kernel_rfl
theorem OW:Dr prog 113=some [.i 0, .i 0, .i 0, .bool false]:=by kernel_rfl
theorem KH:Dr prog 117=some [.i 0, .i 0, .i 0, .i 0, .i 0]:=by kernel_rfl
theorem PV:Dr prog 134=some [.i 0, .i 0, .i 0, .i 0]:=by kernel_rfl
theorem HR:Dr prog 137=some [.i 0, .i 0, .i 0, .i 0, .slice none 0 0, .slice none 0 0]:=by kernel_rfl
theorem KT:Dr prog 143=some [.string ByteArray.empty, .i 0, .i 0]:=by kernel_rfl
theorem HH:Dr prog 146=some [.slice none 0 0, .slice none 0 0, .slice none 0 0, .slice none 0 0]:=by kernel_rfl
theorem Fw:Dr prog 180=some [.i 0, .i 0]:=by kernel_rfl
theorem Ju:Dr prog 186=some [.string ByteArray.empty, .i 0, .i 0, .bool false]:=by kernel_rfl
theorem Ri:Dr prog 229=some [.slice none 0 0, .slice none 0 0, .slice none 0 0]:=by kernel_rfl
theorem Se:Dr prog 29=some [.slice none 0 0]:=by kernel_rfl
theorem OJ:Dr prog 34=some [.slice none 0 0, .slice none 0 0, .slice none 0 0]:=by kernel_rfl
theorem Jb:Dr prog 37=some [.slice none 0 0, .slice none 0 0, .slice none 0 0, .slice none 0 0, .slice none 0 0]:=by kernel_rfl
theorem pW:Dr prog 4=some [.bool false]:=by kernel_rfl
theorem Er:Dr prog 41=some [.slice none 0 0, .slice none 0 0, .slice none 0 0]:=by kernel_rfl
theorem QG:Dr prog 43=some [.i 0, .i 0, .i 0, .i 0]:=by kernel_rfl
theorem MX:Dr prog 45=some [.i 0, .i 0, .i 0]:=by kernel_rfl
theorem iP:Dr prog 52=some [.slice none 0 0, .i 0, .int .u64 0]:=by kernel_rfl
theorem eU:Dr prog 72=some [.slice none 0 0, .slice none 0 0, .slice none 0 0, .slice none 0 0, .slice none 0 0, .slice none 0 0, .slice none 0 0, .slice none 0 0, .slice none 0 0, .slice none 0 0]:=by kernel_rfl
theorem CN:Dr prog 75=some [.i 0, .i 0]:=by kernel_rfl
theorem GQ:Dr prog 84=some [.string ByteArray.empty, .i 0, .slice none 0 0, .slice none 0 0, .slice none 0 0, .i 0, .i 0]:=by kernel_rfl
theorem OF:Dr prog 86=some [.string ByteArray.empty, .i 0, .slice none 0 0]:=by kernel_rfl
theorem fI:Dr prog 91=some [.slice none 0 0, .i 0, .i 0]:=by kernel_rfl
theorem DB:Dr prog 93=some [.string ByteArray.empty, .i 0, .i 0, .i 0, .i 0]:=by kernel_rfl
def Ts(n:Nat)(a0_s:ByteArray)(a1_cutset:ByteArray):Option ByteArray:=if a0_s.size<=9223372036854775807∧a1_cutset.size<4294967281∧(a1_cutset.data.toList.all fun b=>decide (b.toNat<128))=true then some ⟨(Lib.trimS a0_s.data.toList a1_cutset.data.toList).toArray⟩else none
theorem oI{n:Nat}{a0_s a1_cutset c:ByteArray}{w:World}(a:Ts n a0_s a1_cutset=some c):
 Calls prog 148 [.string a0_s, .string a1_cutset].toArray w (Dn fun d e=>d= .string c∧AR w e):=by
 unfold Ts at a
 split at a
 ·rename_i b
  obtain rfl:=Option.some.inj a
  refine(strings_Trim_ascii a0_s a1_cutset w b.1 b.2.1 (fun g f hb=>of_decide_eq_true (List.all_eq_true.1 b.2.2 f (List.mem_of_getElem? hb)))).mono ?_
  rintro h w' ⟨rfl,hB⟩
  exact⟨_,z,z,hB⟩
 ·cases a
def Zq(n:Nat)(a0_s:ByteArray)(a1_c:Int):Option Int:=some (Lib.indexByte a0_s.data.toList a1_c.toNat.toUInt8)
theorem oB{n:Nat}{a0_s:ByteArray}{a1_c a:Int}{w:World}(b:Zq n a0_s a1_c=some a):
 Calls prog 149 [.string a0_s, .int .u8 a1_c].toArray w (Dn fun c d=>c= .i a∧AR w d):=by
 obtain rfl:=Option.some.inj b
 refine(strings_IndexByte a0_s a1_c w).mono ?_
 rintro e w' ⟨rfl,rfl⟩
 exact⟨_,z,z,AR.refl _⟩
def Hk(a0:List ByteArray)(a1:ByteArray)(k0:Int->Option Int):Nat->Int->Option Int
 |0,_=>none
 |m+1,a=>cond (decide (a<(a0.length:Int))) ((AL a0 a).bind fun b=>cond (a1.toList==b.toList) (some a) (Hk a0 a1 k0 m (wrap .i64 (a+1)))) (k0 a)
def Xi(n:Nat)(a0:List ByteArray)(a1:ByteArray):Option Int:=Hk a0 a1 (fun a=>some (-1)) n 0
theorem nD{f:List ByteArray}{g:ByteArray}{i:Int}{j:Value}(a:Xi n f g=some i)(m:H<=w.heap.size)(k:Am Ax w H f j):
 Calls prog 154 [j,.string g].toArray w (Bc (.i i) w):=by
 have l:=AR.refl w;unfold Xi at a;refine AF func154 z ntmps154 (Rc 9 (Yl z (FJ z CE (k.oj l)) (Ro 4 ?_)));refine WC.loopD (fun b h wl=>∃c:Int,Kn 19 [(0,j),(1,.string g),(7,.i ((f.length:Int))),(8,.i c)] h∧AR w wl∧Hk f g (fun c=>(some (-1))) b c=some i) n ?_ ?_
 ·intro h d;exact⟨0,d.sub z,AR.refl _,a⟩
 ·rintro b h o ⟨c,d,e,a⟩;refine Cd d ?_;rcases b with _|b;exact Cc a;rw [Hk.eq_2]at a;have p:=e.size;refine Rc 6 (Wf a e ?_);intro a;refine Rc 15 (Il a (k.oj e) CE HJ Ee ?_);rintro q a _;refine Ro 3 (Wt a e ?_);intro a;refine Rc 8 ?_;intro h d;exact⟨b,nr,(wrap .i64 (c+1)),d.sub z,e,a⟩
def WL(n:Nat)(a0:List ByteArray)(a1:ByteArray):Option Bool:=(Xi n a0 a1).bind fun a=>some (decide (a>=0))
theorem oY{b:List ByteArray}{c:ByteArray}{d:Bool}{e:Value}(a:WL n b c=some d)(j:H<=w.heap.size)(g:Am Ax w H b e):
 Calls prog 140 [e,.string c].toArray w (Bc (.bool d) w):=by
 have f:=AR.refl w;unfold WL at a;refine AF func140 z ntmps140 (Rc 9 (Cs a f aF (fun _ h=>(nD h (by omega) (g.oj f):)) ?_));rintro k a l m ⟨i,o⟩;exact Dv a i
def JL(a0:List Int)(k0:Int->Int->Option Int):Nat->Int->Int->Option Int
 |0,_,_=>none
 |m+1,b,a=>cond (decide (a<(a0.length:Int))) ((AL a0 a).bind fun c=>JL a0 k0 m (min b c) (wrap .i64 (a+1))) (k0 b a)
def Uc(n:Nat)(a0:List Int):Option Int:=cond (decide ((a0.length:Int)<1)) none ((AL a0 0).bind fun b=>JL a0 (fun a c=>some a) n b 1)
theorem nW{i:List Int}{j:Int}{k:Value}(a:Uc n i=some j)(p:H<=w.heap.size)(g:Am (AJ .i64) w H i k):
 Calls prog 189 [k].toArray w (Bc (.i j) w):=by
 have l:=AR.refl w;unfold Uc at a;refine AF func189 z ntmps189 (Rc 9 (Yl z (FJ z Aa (g.oj l)) (Ro 3 (Wc z a ?_ ?_))))
 ·intro a;cases a
 ·intro a;refine Rc 5 (Il a (g.oj l) Aa BD AM ?_);rintro m a _;refine Ro 10 (WC.loopD (fun c h wl=>∃b d:Int,Kn 25 [(0,k),(3,.i b),(4,.i d)] h∧AR w wl∧JL i (fun b d=>(some b)) c b d=some j) n ?_ ?_)
  ·intro h e;exact⟨m,1,e.sub z,AR.refl _,a⟩
  ·rintro c h q ⟨b,d,e,f,a⟩;refine Cd e ?_;rcases c with _|c;exact Cc a;rw [JL.eq_2]at a;have r:=f.size;refine Rc 5 (Yl z (FJ z Aa (g.oj f)) (Ro 3 (Wf a f ?_)));intro a;refine Rc 8 (Il a (g.oj f) Aa BD AM ?_);rintro o a _;refine Yl z (GU z z z) (Ro 10 ?_);intro h e;exact⟨c,nr,(min b o),(wrap .i64 (d+1)),e.sub z,f,a⟩
def XP(n:Nat)(a0:List Int):Option (List Int):=(CA (([]:List Int)) a0 8).bind fun a=>some a
theorem pD{d b:List Int}{e:Value}(a:XP n d=some b)(s:H<=w.heap.size)(f:Am (AJ .i64) w H d e):
 Calls prog 100 [e].toArray w (Dn fun o g=>∃h,o=h∧AC (AJ .i64) g w.heap.size (Iv 0 0) 2 b h∧AR w g):=by
 have i:=AR.refl w;unfold XP at a;refine AF func100 z ntmps100 (Rc 9 ?_)
 rcases AD.nil_or (f.oj i)with ⟨rfl,hnil⟩|⟨p_,n_,c_,rfl⟩
 ·replace a:(some (([]:List Int)))=some b:=(by simpa [hnil,CA] using a);refine Yl z (QB z Aa z z) (Ro 2 (WC.cond_t z (Rc 7 ?_)));cases BM a;exact Ne z z ⟨_,z,_,z,AC.nil _ _ _ _ _,i⟩
 ·refine Yl z (Pz z Aa z z) (Ro 2 (WC.cond_f z (Rc 4 (Ef z (AZ (AJ .i64) (([]:List Int)) [] z Aa Bh z z trivial) ?_))));rintro t u ⟨v,j,x,y,c,p⟩;have A:=c.size;have k:=Ag j;clear j;have⟨B,q,a⟩:=AK a;refine Ro 1 (Ef z (Ac (c:=(AJ .i64)) z Aa Bh z z z z z p (by omega) (f.oj c) q) ?_);rintro C D ⟨l,m⟩;have⟨r,E⟩:=Ge c m k;have F:=Eg m l k;cases BM a;exact Ro 4 (Ne z z ⟨_,z,_,z,AC.base l,r⟩)
end Go.Proofs.YthojemmmflaicacGreatDoor
