/- The walks: every function that FnTotalSlack reaches computes the plain function that is typed beside it; no condition. -/
import Derived.Test.YthojemmmflaicabGreatDoorProg
import Derived.Test.YthojemmmflaicabGreatDoorDat
import Derived.Test.YthojemmmflaicabGreatDoorShelf
set_option linter.all false
set_option maxRecDepth 20000
set_option maxHeartbeats 40000000
namespace Go.Proofs.YthojemmmflaicabGreatDoor
open Go Go.RowKit Go.Eng Go.Proofs.Tryz
open Go.IntKind (wrap)
variable {n H:Nat} {w:World}
abbrev hZ:=@underlying2
abbrev sP:=@underlying3
abbrev iW:=@underlying4
abbrev Yg:=@underlying5
abbrev TN:=@underlying9
abbrev NP:=@underlying22
abbrev JZ:=@underlying24
abbrev FS:=@underlying27
abbrev CI:=@underlying28
abbrev GQ:=@underlying29
abbrev FT:=@underlying32
abbrev CK:=@underlying35
abbrev Cf:=@underlying36
abbrev Ft:=@underlying41
abbrev Aa:=@underlying55
abbrev IG:=@underlying74
abbrev EE:=@underlying100
abbrev Dv:=@underlying106
abbrev JY:=@underlying112
abbrev JX:=@underlying119
abbrev DT:=@underlying148
abbrev Df:=@underlying149
abbrev IB:=@underlying152
abbrev OM:=@underlying163
abbrev OK:=@underlying168
abbrev Yr:=@underlying170
abbrev YQ:=@underlying216
theorem Tryz.hm:Tryz.prog.follows .mixedOrders=true:=by kernel_rfl
theorem RQ:Cm prog 103=some true:=by kernel_rfl
theorem Vx:Cm prog 106=some false:=by kernel_rfl
theorem VQ:Cm prog 112=some false:=by kernel_rfl
theorem PS:Cm prog 115=some true:=by kernel_rfl
theorem HD:Cm prog 117=some true:=by kernel_rfl
theorem bM:Cm prog 119=some false:=by kernel_rfl
theorem Jq:Cm prog 123=some true:=by kernel_rfl
theorem Ew:Cm prog 128=some true:=by kernel_rfl
theorem Rq:Cm prog 139=some true:=by kernel_rfl
theorem RY:Cm prog 144=some true:=by kernel_rfl
theorem Du:Cm prog 148=some false:=by kernel_rfl
theorem FJ:Cm prog 149=some false:=by kernel_rfl
theorem CS:Cm prog 151=some true:=by kernel_rfl
theorem EB:Cm prog 152=some false:=by kernel_rfl
theorem Fo:Cm prog 154=some true:=by kernel_rfl
theorem Zp:Cm prog 170=some true:=by kernel_rfl
theorem Pd:Cm prog 195=some true:=by kernel_rfl
theorem AU:Cm prog 2=some false:=by kernel_rfl
theorem Jv:Cm prog 203=some true:=by kernel_rfl
theorem Yt:Cm prog 22=some false:=by kernel_rfl
theorem GY:Cm prog 24=some false:=by kernel_rfl
theorem KD:Cm prog 26=some true:=by kernel_rfl
theorem Fm:Cm prog 27=some false:=by kernel_rfl
theorem IK:Cm prog 28=some false:=by kernel_rfl
theorem GJ:Cm prog 29=some false:=by kernel_rfl
theorem SV:Cm prog 3=some false:=by kernel_rfl
theorem DQ:Cm prog 31=some true:=by kernel_rfl
theorem EP:Cm prog 32=some false:=by kernel_rfl
theorem Az:Cm prog 34=some true:=by kernel_rfl
theorem EK:Cm prog 35=some false:=by kernel_rfl
theorem Ce:Cm prog 36=some false:=by kernel_rfl
theorem Co:Cm prog 38=some true:=by kernel_rfl
theorem DO:Cm prog 4=some false:=by kernel_rfl
theorem EA:Cm prog 40=some true:=by kernel_rfl
theorem Ci:Cm prog 48=some true:=by kernel_rfl
theorem gN:Cm prog 5=some false:=by kernel_rfl
theorem Om:Cm prog 50=some true:=by kernel_rfl
theorem Cq:Cm prog 54=some true:=by kernel_rfl
theorem BC:Cm prog 55=some false:=by kernel_rfl
theorem Eg:Cm prog 9=some false:=by kernel_rfl
theorem Dt:BP prog 103=some 4:=by kernel_rfl
theorem VJ:BP prog 106=some 1:=by kernel_rfl
theorem HI:BP prog 115=some 4:=by kernel_rfl
theorem CF:BP prog 117=some 4:=by kernel_rfl
theorem ZG:BP prog 119=some 1:=by kernel_rfl
theorem Cr:BP prog 123=some 3:=by kernel_rfl
theorem Ct:BP prog 128=some 4:=by kernel_rfl
theorem Di:BP prog 139=some 5:=by kernel_rfl
theorem Eh:BP prog 144=some 3:=by kernel_rfl
theorem Tu:BP prog 148=some 1:=by kernel_rfl
theorem RJ:BP prog 149=some 1:=by kernel_rfl
theorem BV:BP prog 151=some 7:=by kernel_rfl
theorem CR:BP prog 154=some 6:=by kernel_rfl
theorem RK:BP prog 170=some 2:=by kernel_rfl
theorem Dg:BP prog 195=some 4:=by kernel_rfl
theorem BE:BP prog 2=some 1:=by kernel_rfl
theorem Fb:BP prog 203=some 3:=by kernel_rfl
theorem eN:BP prog 24=some 1:=by kernel_rfl
theorem HU:BP prog 26=some 1:=by kernel_rfl
theorem dA:BP prog 29=some 1:=by kernel_rfl
theorem Pv:BP prog 3=some 1:=by kernel_rfl
theorem Cx:BP prog 31=some 3:=by kernel_rfl
theorem dF:BP prog 32=some 1:=by kernel_rfl
theorem An:BP prog 34=some 5:=by kernel_rfl
theorem YR:BP prog 36=some 1:=by kernel_rfl
theorem Bn:BP prog 38=some 3:=by kernel_rfl
theorem DL:BP prog 4=some 1:=by kernel_rfl
theorem CH:BP prog 40=some 2:=by kernel_rfl
theorem Aw:BP prog 48=some 2:=by kernel_rfl
theorem dN:BP prog 5=some 1:=by kernel_rfl
theorem DY:BP prog 50=some 3:=by kernel_rfl
theorem Bf:BP prog 54=some 5:=by kernel_rfl
theorem He:BP prog 55=some 1:=by kernel_rfl
theorem Gz:BP prog 9=some 1:=by kernel_rfl
theorem Ou:Xw prog 48 2=true:=by kernel_rfl
theorem Gq:Ak prog 103 0=some 0:=by kernel_rfl
theorem Nh:Ak prog 103 1=some 1:=by kernel_rfl
theorem MH:Ak prog 103 2=some 2:=by kernel_rfl
theorem MV:Ak prog 103 3=some 3:=by kernel_rfl
theorem Qg:Ak prog 115 0=some 0:=by kernel_rfl
theorem Tl:Ak prog 115 1=some 1:=by kernel_rfl
theorem KN:Ak prog 115 2=some 2:=by kernel_rfl
theorem OH:Ak prog 115 3=some 3:=by kernel_rfl
theorem Dp:Ak prog 117 0=some 0:=by kernel_rfl
theorem Ez:Ak prog 117 1=some 1:=by kernel_rfl
theorem GL:Ak prog 117 2=some 2:=by kernel_rfl
theorem DI:Ak prog 117 3=some 3:=by kernel_rfl
theorem Qc:Ak prog 121 1=some 5:=by kernel_rfl
theorem MY:Ak prog 121 2=some 6:=by kernel_rfl
theorem QE:Ak prog 121 3=some 7:=by kernel_rfl
theorem QK:Ak prog 121 4=some 8:=by kernel_rfl
theorem QA:Ak prog 123 0=some 0:=by kernel_rfl
theorem EW:Ak prog 123 1=some 1:=by kernel_rfl
theorem CV:Ak prog 123 2=some 2:=by kernel_rfl
theorem Fa:Ak prog 128 0=some 0:=by kernel_rfl
theorem EQ:Ak prog 128 1=some 1:=by kernel_rfl
theorem Jf:Ak prog 128 2=some 2:=by kernel_rfl
theorem Ny:Ak prog 128 3=some 3:=by kernel_rfl
theorem IC:Ak prog 139 0=some 0:=by kernel_rfl
theorem HC:Ak prog 139 1=some 1:=by kernel_rfl
theorem MT:Ak prog 139 2=some 3:=by kernel_rfl
theorem Qd:Ak prog 144 0=some 0:=by kernel_rfl
theorem GM:Ak prog 144 1=some 1:=by kernel_rfl
theorem ID:Ak prog 144 2=some 2:=by kernel_rfl
theorem KO:Ak prog 151 0=some 0:=by kernel_rfl
theorem QN:Ak prog 151 1=some 1:=by kernel_rfl
theorem CU:Ak prog 151 2=some 2:=by kernel_rfl
theorem DF:Ak prog 151 3=some 3:=by kernel_rfl
theorem Dn:Ak prog 151 4=some 4:=by kernel_rfl
theorem QY:Ak prog 151 5=some 5:=by kernel_rfl
theorem Qi:Ak prog 151 6=some 6:=by kernel_rfl
theorem Dr:Ak prog 154 0=some 0:=by kernel_rfl
theorem Da:Ak prog 154 1=some 1:=by kernel_rfl
theorem Cc:Ak prog 154 2=some 2:=by kernel_rfl
theorem DX:Ak prog 154 3=some 3:=by kernel_rfl
theorem FD:Ak prog 154 4=some 4:=by kernel_rfl
theorem FB:Ak prog 154 5=some 5:=by kernel_rfl
theorem MO:Ak prog 195 0=some 0:=by kernel_rfl
theorem MD:Ak prog 195 1=some 1:=by kernel_rfl
theorem Hz:Ak prog 195 2=some 2:=by kernel_rfl
theorem EF:Ak prog 195 3=some 3:=by kernel_rfl
theorem KI:Ak prog 203 0=some 0:=by kernel_rfl
theorem IJ:Ak prog 203 1=some 1:=by kernel_rfl
theorem DZ:Ak prog 203 2=some 2:=by kernel_rfl
theorem Dq:Ak prog 26 0=some 0:=by kernel_rfl
theorem Db:Ak prog 31 0=some 0:=by kernel_rfl
theorem Ek:Ak prog 31 1=some 1:=by kernel_rfl
theorem Dd:Ak prog 31 2=some 2:=by kernel_rfl
theorem JQ:Ak prog 34 0=some 0:=by kernel_rfl
theorem DC:Ak prog 34 1=some 1:=by kernel_rfl
theorem CY:Ak prog 34 2=some 4:=by kernel_rfl
theorem EU:Ak prog 38 0=some 0:=by kernel_rfl
theorem EL:Ak prog 38 1=some 1:=by kernel_rfl
theorem Er:Ak prog 38 2=some 2:=by kernel_rfl
theorem FG:Ak prog 40 0=some 0:=by kernel_rfl
theorem Do:Ak prog 40 1=some 1:=by kernel_rfl
theorem Bu:Ak prog 48 0=some 0:=by kernel_rfl
theorem Bo:Ak prog 48 1=some 1:=by kernel_rfl
theorem ET:Ak prog 50 0=some 0:=by kernel_rfl
theorem Ie:Ak prog 50 1=some 1:=by kernel_rfl
theorem Ru:Ak prog 54 0=some 0:=by kernel_rfl
theorem MU:Ak prog 54 1=some 1:=by kernel_rfl
theorem ML:Ak prog 54 2=some 2:=by kernel_rfl
theorem MW:Ak prog 54 3=some 3:=by kernel_rfl
theorem ME:Ak prog 54 4=some 4:=by kernel_rfl
theorem SJ:Ak prog 73 0=some 0:=by kernel_rfl
theorem NT:Ak prog 73 1=some 1:=by kernel_rfl
theorem Hk:Ak prog 73 2=some 2:=by kernel_rfl
theorem cM:At prog 10=true:=by kernel_rfl
theorem Zx:At prog 100=true:=by kernel_rfl
theorem Ve:At prog 101=true:=by kernel_rfl
theorem aK:At prog 102=true:=by kernel_rfl
theorem aP:At prog 103=true:=by kernel_rfl
theorem RO:At prog 104=true:=by kernel_rfl
theorem Mt:At prog 105=true:=by kernel_rfl
theorem OC:At prog 106=true:=by kernel_rfl
theorem RN:At prog 107=true:=by kernel_rfl
theorem Nu:At prog 108=true:=by kernel_rfl
theorem aE:At prog 109=true:=by kernel_rfl
theorem cR:At prog 11=true:=by kernel_rfl
theorem Uo:At prog 110=true:=by kernel_rfl
theorem bL:At prog 111=true:=by kernel_rfl
theorem bE:At prog 112=true:=by kernel_rfl
theorem aB:At prog 113=true:=by kernel_rfl
theorem aU:At prog 114=true:=by kernel_rfl
theorem Pb:At prog 115=true:=by kernel_rfl
theorem ZN:At prog 116=true:=by kernel_rfl
theorem Ze:At prog 117=true:=by kernel_rfl
theorem Lv:At prog 118=true:=by kernel_rfl
theorem LQ:At prog 119=true:=by kernel_rfl
theorem eM:At prog 12=true:=by kernel_rfl
theorem aQ:At prog 120=true:=by kernel_rfl
theorem Nq:At prog 121=true:=by kernel_rfl
theorem aJ:At prog 122=true:=by kernel_rfl
theorem Ty:At prog 123=true:=by kernel_rfl
theorem ZP:At prog 124=true:=by kernel_rfl
theorem bA:At prog 125=true:=by kernel_rfl
theorem Zu:At prog 126=true:=by kernel_rfl
theorem ZH:At prog 127=true:=by kernel_rfl
theorem Zh:At prog 128=true:=by kernel_rfl
theorem Zt:At prog 129=true:=by kernel_rfl
theorem YN:At prog 13=true:=by kernel_rfl
theorem OA:At prog 130=true:=by kernel_rfl
theorem UK:At prog 131=true:=by kernel_rfl
theorem UA:At prog 132=true:=by kernel_rfl
theorem VB:At prog 133=true:=by kernel_rfl
theorem ZY:At prog 134=true:=by kernel_rfl
theorem Us:At prog 135=true:=by kernel_rfl
theorem OG:At prog 136=true:=by kernel_rfl
theorem WU:At prog 137=true:=by kernel_rfl
theorem Zv:At prog 138=true:=by kernel_rfl
theorem TX:At prog 139=true:=by kernel_rfl
theorem dV:At prog 14=true:=by kernel_rfl
theorem Zz:At prog 140=true:=by kernel_rfl
theorem ZX:At prog 141=true:=by kernel_rfl
theorem aT:At prog 142=true:=by kernel_rfl
theorem aL:At prog 143=true:=by kernel_rfl
theorem Vh:At prog 144=true:=by kernel_rfl
theorem Zj:At prog 145=true:=by kernel_rfl
theorem Zr:At prog 146=true:=by kernel_rfl
theorem aA:At prog 147=true:=by kernel_rfl
theorem Rp:At prog 148=true:=by kernel_rfl
theorem UV:At prog 149=true:=by kernel_rfl
theorem VA:At prog 15=true:=by kernel_rfl
theorem UC:At prog 150=true:=by kernel_rfl
theorem Ub:At prog 151=true:=by kernel_rfl
theorem Zw:At prog 152=true:=by kernel_rfl
theorem ZT:At prog 153=true:=by kernel_rfl
theorem ZL:At prog 154=true:=by kernel_rfl
theorem WE:At prog 155=true:=by kernel_rfl
theorem aW:At prog 156=true:=by kernel_rfl
theorem Uk:At prog 157=true:=by kernel_rfl
theorem ZS:At prog 158=true:=by kernel_rfl
theorem Ri:At prog 159=true:=by kernel_rfl
theorem gQ:At prog 16=true:=by kernel_rfl
theorem Mf:At prog 160=true:=by kernel_rfl
theorem aI:At prog 161=true:=by kernel_rfl
theorem Hp:At prog 162=true:=by kernel_rfl
theorem VF:At prog 163=true:=by kernel_rfl
theorem Zl:At prog 164=true:=by kernel_rfl
theorem dE:At prog 17=true:=by kernel_rfl
theorem aZ:At prog 173=true:=by kernel_rfl
theorem Rj:At prog 174=true:=by kernel_rfl
theorem bG:At prog 175=true:=by kernel_rfl
theorem UD:At prog 176=true:=by kernel_rfl
theorem Ts:At prog 177=true:=by kernel_rfl
theorem bB:At prog 178=true:=by kernel_rfl
theorem ZF:At prog 179=true:=by kernel_rfl
theorem Yo:At prog 18=true:=by kernel_rfl
theorem UJ:At prog 180=true:=by kernel_rfl
theorem bJ:At prog 186=true:=by kernel_rfl
theorem ZQ:At prog 187=true:=by kernel_rfl
theorem ZZ:At prog 188=true:=by kernel_rfl
theorem aX:At prog 189=true:=by kernel_rfl
theorem iC:At prog 19=true:=by kernel_rfl
theorem Zy:At prog 190=true:=by kernel_rfl
theorem Yx:At prog 191=true:=by kernel_rfl
theorem Zg:At prog 192=true:=by kernel_rfl
theorem Zn:At prog 196=true:=by kernel_rfl
theorem TY:At prog 197=true:=by kernel_rfl
theorem Tn:At prog 198=true:=by kernel_rfl
theorem iL:At prog 20=true:=by kernel_rfl
theorem aG:At prog 202=true:=by kernel_rfl
theorem fT:At prog 21=true:=by kernel_rfl
theorem Ys:At prog 22=true:=by kernel_rfl
theorem YO:At prog 23=true:=by kernel_rfl
theorem iG:At prog 24=true:=by kernel_rfl
theorem fP:At prog 25=true:=by kernel_rfl
theorem hD:At prog 26=true:=by kernel_rfl
theorem eH:At prog 27=true:=by kernel_rfl
theorem BD:At prog 28=true:=by kernel_rfl
theorem eW:At prog 29=true:=by kernel_rfl
theorem cN:At prog 30=true:=by kernel_rfl
theorem gY:At prog 31=true:=by kernel_rfl
theorem eD:At prog 32=true:=by kernel_rfl
theorem YI:At prog 33=true:=by kernel_rfl
theorem MR:At prog 34=true:=by kernel_rfl
theorem YW:At prog 35=true:=by kernel_rfl
theorem Fh:At prog 36=true:=by kernel_rfl
theorem gC:At prog 37=true:=by kernel_rfl
theorem EJ:At prog 38=true:=by kernel_rfl
theorem WP:At prog 39=true:=by kernel_rfl
theorem oF:At prog 4=true:=by kernel_rfl
theorem GW:At prog 40=true:=by kernel_rfl
theorem Rz:At prog 41=true:=by kernel_rfl
theorem gA:At prog 42=true:=by kernel_rfl
theorem cU:At prog 43=true:=by kernel_rfl
theorem PB:At prog 44=true:=by kernel_rfl
theorem YM:At prog 45=true:=by kernel_rfl
theorem Yc:At prog 46=true:=by kernel_rfl
theorem SN:At prog 47=true:=by kernel_rfl
theorem dW:At prog 48=true:=by kernel_rfl
theorem LG:At prog 49=true:=by kernel_rfl
theorem mG:At prog 5=true:=by kernel_rfl
theorem gO:At prog 50=true:=by kernel_rfl
theorem Oi:At prog 51=true:=by kernel_rfl
theorem Pz:At prog 52=true:=by kernel_rfl
theorem gR:At prog 53=true:=by kernel_rfl
theorem eB:At prog 54=true:=by kernel_rfl
theorem SP:At prog 55=true:=by kernel_rfl
theorem eZ:At prog 56=true:=by kernel_rfl
theorem fJ:At prog 57=true:=by kernel_rfl
theorem Oj:At prog 58=true:=by kernel_rfl
theorem WK:At prog 59=true:=by kernel_rfl
theorem oO:At prog 6=true:=by kernel_rfl
theorem gD:At prog 60=true:=by kernel_rfl
theorem Yf:At prog 61=true:=by kernel_rfl
theorem UG:At prog 62=true:=by kernel_rfl
theorem YS:At prog 63=true:=by kernel_rfl
theorem fE:At prog 64=true:=by kernel_rfl
theorem SS:At prog 65=true:=by kernel_rfl
theorem fL:At prog 66=true:=by kernel_rfl
theorem eJ:At prog 67=true:=by kernel_rfl
theorem SB:At prog 68=true:=by kernel_rfl
theorem WD:At prog 69=true:=by kernel_rfl
theorem pG:At prog 7=true:=by kernel_rfl
theorem Yu:At prog 70=true:=by kernel_rfl
theorem fZ:At prog 71=true:=by kernel_rfl
theorem gZ:At prog 72=true:=by kernel_rfl
theorem fA:At prog 73=true:=by kernel_rfl
theorem eQ:At prog 74=true:=by kernel_rfl
theorem iD:At prog 75=true:=by kernel_rfl
theorem cH:At prog 76=true:=by kernel_rfl
theorem TS:At prog 77=true:=by kernel_rfl
theorem cG:At prog 78=true:=by kernel_rfl
theorem Tm:At prog 79=true:=by kernel_rfl
theorem oR:At prog 8=true:=by kernel_rfl
theorem YK:At prog 80=true:=by kernel_rfl
theorem Vz:At prog 81=true:=by kernel_rfl
theorem Yk:At prog 82=true:=by kernel_rfl
theorem gM:At prog 83=true:=by kernel_rfl
theorem YY:At prog 84=true:=by kernel_rfl
theorem eA:At prog 85=true:=by kernel_rfl
theorem Pp:At prog 86=true:=by kernel_rfl
theorem LK:At prog 87=true:=by kernel_rfl
theorem fC:At prog 88=true:=by kernel_rfl
theorem fQ:At prog 89=true:=by kernel_rfl
theorem jL:At prog 9=true:=by kernel_rfl
theorem hO:At prog 90=true:=by kernel_rfl
theorem Yb:At prog 91=true:=by kernel_rfl
theorem cZ:At prog 92=true:=by kernel_rfl
theorem cV:At prog 93=true:=by kernel_rfl
theorem gT:At prog 94=true:=by kernel_rfl
theorem Ok:At prog 95=true:=by kernel_rfl
theorem gX:At prog 96=true:=by kernel_rfl
theorem dB:At prog 97=true:=by kernel_rfl
theorem dC:At prog 98=true:=by kernel_rfl
theorem eL:At prog 99=true:=by kernel_rfl
theorem OI:DP prog 103=some ([.i 0, .i 0, .i 0, .bool false],4,32):=by kernel_rfl
theorem PF:DP prog 115=some ([.i 0, .i 0, .i 0, .bool false],4,32):=by kernel_rfl
theorem RD:DP prog 117=some ([.slice none 0 0, .slice none 0 0, .slice none 0 0, .slice none 0 0],4,96):=by kernel_rfl
theorem RM:DP prog 123=some ([.string ByteArray.empty, .i 0, .slice none 0 0],3,48):=by kernel_rfl
theorem Ka:DP prog 128=some ([.i 0, .i 0, .i 0, .i 0],4,32):=by kernel_rfl
theorem RG:DP prog 139=some ([.i 0, .i 0, .i 0, .i 0, .i 0],5,40):=by kernel_rfl
theorem LW:DP prog 144=some ([.string ByteArray.empty, .i 0, .i 0],3,32):=by kernel_rfl
theorem aN:DP prog 151=some ([.string ByteArray.empty, .i 0, .slice none 0 0, .slice none 0 0, .slice none 0 0, .i 0, .i 0],7,112):=by kernel_rfl
theorem Ml:DP prog 154=some ([.i 0, .i 0, .i 0, .i 0, .slice none 0 0, .slice none 0 0],6,80):=by kernel_rfl
theorem ON:DP prog 170=some ([.i 0, .i 0],2,16):=by kernel_rfl
theorem Mx:DP prog 195=some ([.string ByteArray.empty, .i 0, .i 0, .bool false],4,40):=by kernel_rfl
theorem Bj:DP prog 2=some ([.i 0],1,8):=by kernel_rfl
theorem Zi:DP prog 203=some ([.slice none 0 0, .slice none 0 0, .slice none 0 0],3,72):=by kernel_rfl
theorem mB:DP prog 3=some ([.i 0],1,8):=by kernel_rfl
theorem Ga:DP prog 4=some ([.bool false],1,1):=by kernel_rfl
theorem ES:DP prog 48=some ([.i 0, .i 0],2,16):=by kernel_rfl
theorem ZA:DP prog 5=some ([.int .u8 0],1,1):=by kernel_rfl
theorem Vo:DP prog 50=some ([.i 0, .i 0, .i 0],3,24):=by kernel_rfl
theorem Oq:DP prog 55=some ([.slice none 0 0],1,24):=by kernel_rfl
theorem En:DP prog 9=some ([.string ByteArray.empty],1,16):=by kernel_rfl
theorem Oz:∀(a0:Int) (a1:Int),Wl prog 48 [.i a0, .i a1]=true:=by intros;kernel_rfl
theorem Uf:Ch prog 103=some [(0,1),(1,1),(2,1),(3,1)]:=by kernel_rfl
theorem VX:Ch prog 115=some [(0,1),(1,1),(2,1),(3,1)]:=by kernel_rfl
theorem WN:Ch prog 117=some [(0,1),(1,1),(2,1),(3,1)]:=by kernel_rfl
theorem bH:Ch prog 121=some [(0,5),(5,1),(6,1),(7,1),(8,1),(9,1)]:=by kernel_rfl
theorem bF:Ch prog 123=some [(0,1),(1,1),(2,1)]:=by kernel_rfl
theorem Qv:Ch prog 128=some [(0,1),(1,1),(2,1),(3,1)]:=by kernel_rfl
theorem PX:Ch prog 139=some [(0,1),(1,2),(3,2)]:=by kernel_rfl
theorem Nm:Ch prog 144=some [(0,1),(1,1),(2,1)]:=by kernel_rfl
theorem Vt:Ch prog 151=some [(0,1),(1,1),(2,1),(3,1),(4,1),(5,1),(6,1)]:=by kernel_rfl
theorem UR:Ch prog 154=some [(0,1),(1,1),(2,1),(3,1),(4,1),(5,1)]:=by kernel_rfl
theorem GR:Ch prog 170=some [(0,1),(1,1)]:=by kernel_rfl
theorem Nl:Ch prog 195=some [(0,1),(1,1),(2,1),(3,1)]:=by kernel_rfl
theorem aY:Ch prog 203=some [(0,1),(1,1),(2,1)]:=by kernel_rfl
theorem eI:Ch prog 26=some [(0,1)]:=by kernel_rfl
theorem VV:Ch prog 31=some [(0,1),(1,1),(2,1)]:=by kernel_rfl
theorem cE:Ch prog 34=some [(0,1),(1,3),(4,1)]:=by kernel_rfl
theorem MG:Ch prog 38=some [(0,1),(1,1),(2,1)]:=by kernel_rfl
theorem GO:Ch prog 40=some [(0,1),(1,1)]:=by kernel_rfl
theorem FA:Ch prog 48=some [(0,1),(1,1)]:=by kernel_rfl
theorem QV:Ch prog 50=some [(0,1),(1,2)]:=by kernel_rfl
theorem FN:Ch prog 54=some [(0,1),(1,1),(2,1),(3,1),(4,1)]:=by kernel_rfl
theorem dR:Ch prog 73=some [(0,1),(1,1),(2,1)]:=by kernel_rfl
theorem Pf:ED prog 103=some [.i 0, .i 0, .i 0, .bool false]:=by kernel_rfl
theorem NZ:ED prog 115=some [.i 0, .i 0, .i 0, .bool false]:=by kernel_rfl
theorem Gp:ED prog 117=some [.slice none 0 0, .slice none 0 0, .slice none 0 0, .slice none 0 0]:=by kernel_rfl
theorem ZC:ED prog 121=some [.slice none 0 0, .slice none 0 0, .slice none 0 0, .slice none 0 0, .slice none 0 0, .slice none 0 0, .slice none 0 0, .slice none 0 0, .slice none 0 0, .slice none 0 0]:=by kernel_rfl
theorem Lr:ED prog 123=some [.string ByteArray.empty, .i 0, .slice none 0 0]:=by kernel_rfl
theorem Nv:ED prog 128=some [.i 0, .i 0, .i 0, .i 0]:=by kernel_rfl
theorem MA:ED prog 139=some [.i 0, .i 0, .i 0, .i 0, .i 0]:=by kernel_rfl
theorem Ju:ED prog 144=some [.string ByteArray.empty, .i 0, .i 0]:=by kernel_rfl
theorem FL:ED prog 151=some [.string ByteArray.empty, .i 0, .slice none 0 0, .slice none 0 0, .slice none 0 0, .i 0, .i 0]:=by kernel_rfl
theorem Iw:ED prog 154=some [.i 0, .i 0, .i 0, .i 0, .slice none 0 0, .slice none 0 0]:=by kernel_rfl
theorem Fy:ED prog 170=some [.i 0, .i 0]:=by kernel_rfl
theorem KT:ED prog 195=some [.string ByteArray.empty, .i 0, .i 0, .bool false]:=by kernel_rfl
theorem Qt:ED prog 203=some [.slice none 0 0, .slice none 0 0, .slice none 0 0]:=by kernel_rfl
theorem SL:ED prog 26=some [.slice none 0 0]:=by kernel_rfl
theorem Ni:ED prog 31=some [.slice none 0 0, .slice none 0 0, .slice none 0 0]:=by kernel_rfl
theorem JV:ED prog 34=some [.slice none 0 0, .slice none 0 0, .slice none 0 0, .slice none 0 0, .slice none 0 0]:=by kernel_rfl
theorem Ea:ED prog 38=some [.slice none 0 0, .slice none 0 0, .slice none 0 0]:=by kernel_rfl
theorem DV:ED prog 40=some [.slice none 0 0, .slice none 0 0]:=by kernel_rfl
theorem CA:ED prog 48=some [.i 0, .i 0]:=by kernel_rfl
theorem LL:ED prog 50=some [.i 0, .i 0, .i 0]:=by kernel_rfl
theorem Cp:ED prog 54=some [.string ByteArray.empty, .i 0, .i 0, .i 0, .i 0]:=by kernel_rfl
theorem fD:ED prog 73=some [.slice none 0 0, .i 0, .i 0]:=by kernel_rfl
def Tz(n:Nat)(a0_s:ByteArray)(a1_cutset:ByteArray):Option ByteArray:=if a0_s.size<=9223372036854775807∧a1_cutset.size<4294967281∧(a1_cutset.data.toList.all fun b=>decide (b.toNat<128))=true then some ⟨(Lib.trimS a0_s.data.toList a1_cutset.data.toList).toArray⟩else none
theorem nB{n:Nat}{a0_s a1_cutset c:ByteArray}{w:World}(a:Tz n a0_s a1_cutset=some c):
 Calls prog 153 [.string a0_s, .string a1_cutset].toArray w (Dm fun d e=>d= .string c∧AM w e):=by
 unfold Tz at a
 split at a
 ·rename_i b
  obtain rfl:=Option.some.inj a
  refine(strings_Trim_ascii a0_s a1_cutset w b.1 b.2.1 (fun g f hb=>of_decide_eq_true (List.all_eq_true.1 b.2.2 f (List.mem_of_getElem? hb)))).mono ?_
  rintro h w' ⟨rfl,hB⟩
  exact⟨_,z,z,hB⟩
 ·cases a
def ZV(n:Nat)(a0_s:ByteArray)(a1_c:Int):Option Int:=some (Lib.indexByte a0_s.data.toList a1_c.toNat.toUInt8)
theorem lQ{n:Nat}{a0_s:ByteArray}{a1_c a:Int}{w:World}(b:ZV n a0_s a1_c=some a):
 Calls prog 154 [.string a0_s, .int .u8 a1_c].toArray w (Dm fun c d=>c= .i a∧AM w d):=by
 obtain rfl:=Option.some.inj b
 refine(strings_IndexByte a0_s a1_c w).mono ?_
 rintro e w' ⟨rfl,rfl⟩
 exact⟨_,z,z,AM.refl _⟩
def HY(a0:List ByteArray)(a1:ByteArray)(k0:Int->Option Int):Nat->Int->Option Int
 |0,_=>none
 |m+1,a=>cond (decide (a<(a0.length:Int))) ((AO a0 a).bind fun b=>cond (a1.toList==b.toList) (some a) (HY a0 a1 k0 m (wrap .i64 (a+1)))) (k0 a)
def XH(n:Nat)(a0:List ByteArray)(a1:ByteArray):Option Int:=HY a0 a1 (fun a=>some (-1)) n 0
theorem oK{f:List ByteArray}{g:ByteArray}{i:Int}{j:Value}(a:XH n f g=some i)(m:H<=w.heap.size)(k:Ai Ax w H f j):
 Calls prog 161 [j,.string g].toArray w (Ba (.i i) w):=by
 have l:=AM.refl w;unfold XH at a;refine AE func161 z ntmps161 (Rc 9 (Yl z (FP z CI (k.oj l)) (Ro 4 ?_)));refine WC.loopD (fun b h wl=>∃c:Int,Kn 19 [(0,j),(1,.string g),(7,.i ((f.length:Int))),(8,.i c)] h∧AM w wl∧HY f g (fun c=>(some (-1))) b c=some i) n ?_ ?_
 ·intro h d;exact⟨0,d.sub z,AM.refl _,a⟩
 ·rintro b h o ⟨c,d,e,a⟩;refine Cd d ?_;rcases b with _|b;exact CZ a;rw [HY.eq_2]at a;have p:=e.size;refine Rc 6 (Wf a e ?_);intro a;refine Rc 15 (Il a (k.oj e) CI Gz Eg ?_);rintro q a _;refine Ro 3 (Wt a e ?_);intro a;refine Rc 8 ?_;intro h d;exact⟨b,nr,(wrap .i64 (c+1)),d.sub z,e,a⟩
def UB(n:Nat)(a0:List ByteArray)(a1:ByteArray):Option Bool:=(XH n a0 a1).bind fun a=>some (decide (a>=0))
theorem nE{b:List ByteArray}{c:ByteArray}{d:Bool}{e:Value}(a:UB n b c=some d)(j:H<=w.heap.size)(g:Ai Ax w H b e):
 Calls prog 143 [e,.string c].toArray w (Ba (.bool d) w):=by
 have f:=AM.refl w;unfold UB at a;refine AE func143 z ntmps143 (Rc 9 (Cs a f aI (fun _ h=>(oK h (by omega) (g.oj f):)) ?_));rintro k a l m ⟨i,o⟩;exact Dz a i
def If(a0:List Int)(k0:Int->Int->Option Int):Nat->Int->Int->Option Int
 |0,_,_=>none
 |m+1,b,a=>cond (decide (a<(a0.length:Int))) ((AO a0 a).bind fun c=>If a0 k0 m (min b c) (wrap .i64 (a+1))) (k0 b a)
def Ut(n:Nat)(a0:List Int):Option Int:=cond (decide ((a0.length:Int)<1)) none ((AO a0 0).bind fun b=>If a0 (fun a c=>some a) n b 1)
theorem oD{i:List Int}{j:Int}{k:Value}(a:Ut n i=some j)(p:H<=w.heap.size)(g:Ai (AI .i64) w H i k):
 Calls prog 189 [k].toArray w (Ba (.i j) w):=by
 have l:=AM.refl w;unfold Ut at a;refine AE func189 z ntmps189 (Rc 9 (Yl z (FP z Aa (g.oj l)) (Ro 3 (Wc z a ?_ ?_))))
 ·intro a;cases a
 ·intro a;refine Rc 5 (Il a (g.oj l) Aa BE AU ?_);rintro m a _;refine Ro 10 (WC.loopD (fun c h wl=>∃b d:Int,Kn 25 [(0,k),(3,.i b),(4,.i d)] h∧AM w wl∧If i (fun b d=>(some b)) c b d=some j) n ?_ ?_)
  ·intro h e;exact⟨m,1,e.sub z,AM.refl _,a⟩
  ·rintro c h q ⟨b,d,e,f,a⟩;refine Cd e ?_;rcases c with _|c;exact CZ a;rw [If.eq_2]at a;have r:=f.size;refine Rc 5 (Yl z (FP z Aa (g.oj f)) (Ro 3 (Wf a f ?_)));intro a;refine Rc 8 (Il a (g.oj f) Aa BE AU ?_);rintro o a _;refine Yl z (Ey z z z) (Ro 10 ?_);intro h e;exact⟨c,nr,(min b o),(wrap .i64 (d+1)),e.sub z,f,a⟩
def XT(n:Nat)(a0:List Int):Option (List Int):=(CB (([]:List Int)) a0 8).bind fun a=>some a
theorem mW{d b:List Int}{e:Value}(a:XT n d=some b)(s:H<=w.heap.size)(f:Ai (AI .i64) w H d e):
 Calls prog 97 [e].toArray w (Dm fun o g=>∃h,o=h∧AC (AI .i64) g w.heap.size (Iv 0 0) 2 b h∧AM w g):=by
 have i:=AM.refl w;unfold XT at a;refine AE func97 z ntmps97 (Rc 9 ?_)
 rcases AD.nil_or (f.oj i)with ⟨rfl,hnil⟩|⟨p_,n_,c_,rfl⟩
 ·replace a:(some (([]:List Int)))=some b:=(by simpa [hnil,CB] using a);refine Yl z (QT z Aa z z) (Ro 2 (WC.cond_t z (Rc 7 ?_)));cases BM a;exact Ne z z ⟨_,z,_,z,AC.nil _ _ _ _ _,i⟩
 ·refine Yl z (QD z Aa z z) (Ro 2 (WC.cond_f z (Rc 4 (Ef z (AZ (AI .i64) (([]:List Int)) [] z Aa Bj z z trivial) ?_))));rintro t u ⟨v,j,x,y,c,p⟩;have A:=c.size;have k:=Ac j;clear j;have⟨B,q,a⟩:=AK a;refine Ro 1 (Ef z (Af (c:=(AI .i64)) z Aa Bj z z z z z p (by omega) (f.oj c) q) ?_);rintro C D ⟨l,m⟩;have⟨r,E⟩:=Ge c m k;have F:=Ei m l k;cases BM a;exact Ro 4 (Ne z z ⟨_,z,_,z,AC.base l,r⟩)
end Go.Proofs.YthojemmmflaicabGreatDoor
