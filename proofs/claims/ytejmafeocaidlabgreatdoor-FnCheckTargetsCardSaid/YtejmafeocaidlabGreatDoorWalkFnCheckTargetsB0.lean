/- The walks: every function that FnCheckTargets reaches computes the plain function that is typed beside it; no condition. -/
import Derived.Test.YtejmafeocaidlabGreatDoorProg
import Derived.Test.YtejmafeocaidlabGreatDoorDat
import Derived.Test.YtejmafeocaidlabGreatDoorShelf
set_option linter.all false
set_option maxRecDepth 20000
set_option maxHeartbeats 40000000
namespace Go.Proofs.YtejmafeocaidlabGreatDoor
open Go Go.RowKit Go.Eng Go.Proofs.Tryz
open Go.IntKind (wrap)
variable {n H:Nat} {w:World}
abbrev uG:=@underlying2
abbrev qF:=@underlying3
abbrev ud4:=@underlying4
abbrev iQ:=@underlying5
abbrev Xm:=@underlying9
abbrev Qh:=@underlying22
abbrev JH:=@underlying24
abbrev Gg:=@underlying27
abbrev Ez:=@underlying28
abbrev It:=@underlying29
abbrev Hw:=@underlying32
abbrev GE:=@underlying35
abbrev GZ:=@underlying36
abbrev Jp:=@underlying43
abbrev IG:=@underlying46
abbrev Ak:=@underlying70
abbrev Qk:=@underlying71
abbrev Kr:=@underlying83
abbrev Pi:=@underlying98
abbrev Iy:=@underlying99
abbrev Ip:=@underlying100
abbrev He:=@underlying108
abbrev GC:=@underlying110
abbrev EB:=@underlying111
abbrev SZ:=@underlying140
abbrev Sh:=@underlying182
abbrev Ra:=@underlying207
abbrev RS:=@underlying212
abbrev iZ:=@underlying214
theorem Tryz.hm:Tryz.prog.follows .mixedOrders=true:=by kernel_rfl
theorem kA:EO prog 100=some false:=by kernel_rfl
theorem Gy:EO prog 110=some false:=by kernel_rfl
theorem Fm:EO prog 111=some false:=by kernel_rfl
theorem Db:EO prog 113=some true:=by kernel_rfl
theorem La:EO prog 115=some true:=by kernel_rfl
theorem Jf:EO prog 124=some true:=by kernel_rfl
theorem Kl:EO prog 147=some true:=by kernel_rfl
theorem ZL:EO prog 149=some true:=by kernel_rfl
theorem Vw:EO prog 151=some true:=by kernel_rfl
theorem IF:EO prog 162=some true:=by kernel_rfl
theorem VL:EO prog 165=some true:=by kernel_rfl
theorem Rt:EO prog 172=some true:=by kernel_rfl
theorem Zu:EO prog 186=some true:=by kernel_rfl
theorem AR:EO prog 2=some false:=by kernel_rfl
theorem jX:EO prog 214=some true:=by kernel_rfl
theorem iR:EO prog 22=some false:=by kernel_rfl
theorem Ta:EO prog 225=some true:=by kernel_rfl
theorem HJ:EO prog 24=some false:=by kernel_rfl
theorem Mi:EO prog 26=some true:=by kernel_rfl
theorem GR:EO prog 27=some false:=by kernel_rfl
theorem LA:EO prog 28=some false:=by kernel_rfl
theorem Im:EO prog 29=some false:=by kernel_rfl
theorem Uj:EO prog 3=some false:=by kernel_rfl
theorem FB:EO prog 31=some true:=by kernel_rfl
theorem Gu:EO prog 32=some false:=by kernel_rfl
theorem CR:EO prog 34=some true:=by kernel_rfl
theorem JZ:EO prog 35=some false:=by kernel_rfl
theorem El:EO prog 36=some false:=by kernel_rfl
theorem Ep:EO prog 38=some true:=by kernel_rfl
theorem Gi:EO prog 4=some false:=by kernel_rfl
theorem Ga:EO prog 40=some true:=by kernel_rfl
theorem qM:EO prog 5=some false:=by kernel_rfl
theorem Fs:EO prog 52=some true:=by kernel_rfl
theorem Sd:EO prog 54=some true:=by kernel_rfl
theorem SD:EO prog 56=some true:=by kernel_rfl
theorem Bn:EO prog 70=some false:=by kernel_rfl
theorem KP:EO prog 71=some false:=by kernel_rfl
theorem Gv:EO prog 73=some true:=by kernel_rfl
theorem Gt:EO prog 82=some true:=by kernel_rfl
theorem JW:EO prog 9=some false:=by kernel_rfl
theorem iV:EO prog 98=some false:=by kernel_rfl
theorem iS:EO prog 99=some false:=by kernel_rfl
theorem lI:CE prog 100=some 1:=by kernel_rfl
theorem cQ:CE prog 110=some 1:=by kernel_rfl
theorem Va:CE prog 111=some 1:=by kernel_rfl
theorem By:CE prog 113=some 7:=by kernel_rfl
theorem Dj:CE prog 115=some 3:=by kernel_rfl
theorem Dk:CE prog 124=some 4:=by kernel_rfl
theorem HE:CE prog 147=some 3:=by kernel_rfl
theorem IE:CE prog 149=some 4:=by kernel_rfl
theorem HI:CE prog 151=some 3:=by kernel_rfl
theorem Ff:CE prog 162=some 4:=by kernel_rfl
theorem GF:CE prog 165=some 5:=by kernel_rfl
theorem IU:CE prog 172=some 4:=by kernel_rfl
theorem QF:CE prog 186=some 2:=by kernel_rfl
theorem Bb:CE prog 2=some 1:=by kernel_rfl
theorem VU:CE prog 214=some 2:=by kernel_rfl
theorem Gq:CE prog 225=some 4:=by kernel_rfl
theorem pG:CE prog 24=some 1:=by kernel_rfl
theorem KV:CE prog 26=some 1:=by kernel_rfl
theorem tM:CE prog 29=some 1:=by kernel_rfl
theorem Ue:CE prog 3=some 1:=by kernel_rfl
theorem EZ:CE prog 31=some 3:=by kernel_rfl
theorem rN:CE prog 32=some 1:=by kernel_rfl
theorem Bv:CE prog 34=some 5:=by kernel_rfl
theorem rZ:CE prog 36=some 1:=by kernel_rfl
theorem DT:CE prog 38=some 3:=by kernel_rfl
theorem Gl:CE prog 4=some 1:=by kernel_rfl
theorem FL:CE prog 40=some 3:=by kernel_rfl
theorem qL:CE prog 5=some 1:=by kernel_rfl
theorem CU:CE prog 52=some 2:=by kernel_rfl
theorem GX:CE prog 54=some 3:=by kernel_rfl
theorem Gk:CE prog 56=some 4:=by kernel_rfl
theorem MR:CE prog 70=some 1:=by kernel_rfl
theorem Ct:CE prog 73=some 6:=by kernel_rfl
theorem FD:CE prog 82=some 5:=by kernel_rfl
theorem Qm:CE prog 9=some 1:=by kernel_rfl
theorem iI:CE prog 99=some 1:=by kernel_rfl
theorem mG:Wh prog 54 2=true:=by kernel_rfl
theorem WK:gD prog 52 2=true:=by kernel_rfl
theorem Ky:Aw prog 102 0=some 0:=by kernel_rfl
theorem UG:Aw prog 102 1=some 5:=by kernel_rfl
theorem PN:Aw prog 102 2=some 6:=by kernel_rfl
theorem UH:Aw prog 102 3=some 7:=by kernel_rfl
theorem UE:Aw prog 102 4=some 8:=by kernel_rfl
theorem Mx:Aw prog 113 0=some 0:=by kernel_rfl
theorem NA:Aw prog 113 1=some 1:=by kernel_rfl
theorem Eg:Aw prog 113 2=some 2:=by kernel_rfl
theorem Da:Aw prog 113 3=some 3:=by kernel_rfl
theorem GI:Aw prog 113 4=some 4:=by kernel_rfl
theorem Uu:Aw prog 113 5=some 5:=by kernel_rfl
theorem Um:Aw prog 113 6=some 6:=by kernel_rfl
theorem UN:Aw prog 115 0=some 0:=by kernel_rfl
theorem FC:Aw prog 115 1=some 1:=by kernel_rfl
theorem FQ:Aw prog 115 2=some 2:=by kernel_rfl
theorem GN:Aw prog 124 0=some 0:=by kernel_rfl
theorem Hd:Aw prog 124 1=some 1:=by kernel_rfl
theorem Ik:Aw prog 124 2=some 2:=by kernel_rfl
theorem FM:Aw prog 124 3=some 3:=by kernel_rfl
theorem LG:Aw prog 147 0=some 0:=by kernel_rfl
theorem Ir:Aw prog 147 1=some 1:=by kernel_rfl
theorem Gc:Aw prog 147 2=some 2:=by kernel_rfl
theorem Mt:Aw prog 149 0=some 0:=by kernel_rfl
theorem UU:Aw prog 149 1=some 1:=by kernel_rfl
theorem Po:Aw prog 149 2=some 2:=by kernel_rfl
theorem RN:Aw prog 149 3=some 3:=by kernel_rfl
theorem Tw:Aw prog 151 0=some 0:=by kernel_rfl
theorem Is:Aw prog 151 1=some 1:=by kernel_rfl
theorem Ks:Aw prog 151 2=some 2:=by kernel_rfl
theorem Ij:Aw prog 162 0=some 0:=by kernel_rfl
theorem IJ:Aw prog 162 1=some 1:=by kernel_rfl
theorem NC:Aw prog 162 2=some 2:=by kernel_rfl
theorem Rh:Aw prog 162 3=some 3:=by kernel_rfl
theorem Km:Aw prog 165 0=some 0:=by kernel_rfl
theorem Jn:Aw prog 165 1=some 1:=by kernel_rfl
theorem Pc:Aw prog 165 2=some 3:=by kernel_rfl
theorem Rp:Aw prog 172 0=some 0:=by kernel_rfl
theorem UM:Aw prog 172 1=some 1:=by kernel_rfl
theorem Ms:Aw prog 172 2=some 2:=by kernel_rfl
theorem Rk:Aw prog 172 3=some 3:=by kernel_rfl
theorem Uy:Aw prog 186 0=some 0:=by kernel_rfl
theorem Uc:Aw prog 186 1=some 1:=by kernel_rfl
theorem PL:Aw prog 225 0=some 0:=by kernel_rfl
theorem Pe:Aw prog 225 1=some 1:=by kernel_rfl
theorem LF:Aw prog 225 2=some 2:=by kernel_rfl
theorem Hg:Aw prog 225 3=some 3:=by kernel_rfl
theorem Ej:Aw prog 26 0=some 0:=by kernel_rfl
theorem Dz:Aw prog 31 0=some 0:=by kernel_rfl
theorem HO:Aw prog 31 1=some 1:=by kernel_rfl
theorem Fz:Aw prog 31 2=some 2:=by kernel_rfl
theorem HG:Aw prog 34 0=some 0:=by kernel_rfl
theorem DR:Aw prog 34 1=some 1:=by kernel_rfl
theorem ER:Aw prog 34 2=some 4:=by kernel_rfl
theorem Gm:Aw prog 38 0=some 0:=by kernel_rfl
theorem EY:Aw prog 38 1=some 1:=by kernel_rfl
theorem GU:Aw prog 38 2=some 2:=by kernel_rfl
theorem Ps:Aw prog 40 0=some 0:=by kernel_rfl
theorem Pg:Aw prog 40 1=some 1:=by kernel_rfl
theorem MH:Aw prog 40 2=some 2:=by kernel_rfl
theorem Cz:Aw prog 52 0=some 0:=by kernel_rfl
theorem Cr:Aw prog 52 1=some 1:=by kernel_rfl
theorem MB:Aw prog 54 0=some 0:=by kernel_rfl
theorem Ie:Aw prog 54 1=some 1:=by kernel_rfl
theorem Nk:Aw prog 56 0=some 0:=by kernel_rfl
theorem PO:Aw prog 56 1=some 1:=by kernel_rfl
theorem Tp:Aw prog 56 2=some 2:=by kernel_rfl
theorem Hk:Aw prog 56 3=some 3:=by kernel_rfl
theorem EX:Aw prog 73 0=some 0:=by kernel_rfl
theorem GJ:Aw prog 73 1=some 1:=by kernel_rfl
theorem GV:Aw prog 73 2=some 2:=by kernel_rfl
theorem IB:Aw prog 73 3=some 3:=by kernel_rfl
theorem KK:Aw prog 73 4=some 4:=by kernel_rfl
theorem Nr:Aw prog 73 5=some 5:=by kernel_rfl
theorem WA:Aw prog 80 0=some 0:=by kernel_rfl
theorem Qu:Aw prog 80 1=some 1:=by kernel_rfl
theorem Jx:Aw prog 80 2=some 2:=by kernel_rfl
theorem Wp:Aw prog 82 0=some 0:=by kernel_rfl
theorem PY:Aw prog 82 1=some 1:=by kernel_rfl
theorem PK:Aw prog 82 2=some 2:=by kernel_rfl
theorem PQ:Aw prog 82 3=some 3:=by kernel_rfl
theorem Pq:Aw prog 82 4=some 4:=by kernel_rfl
theorem rP:BQ prog 10=true:=by kernel_rfl
theorem nQ:BQ prog 100=true:=by kernel_rfl
theorem Om:BQ prog 101=true:=by kernel_rfl
theorem Zr:BQ prog 103=true:=by kernel_rfl
theorem SE:BQ prog 104=true:=by kernel_rfl
theorem YU:BQ prog 105=true:=by kernel_rfl
theorem jQ:BQ prog 106=true:=by kernel_rfl
theorem jU:BQ prog 107=true:=by kernel_rfl
theorem TJ:BQ prog 108=true:=by kernel_rfl
theorem QA:BQ prog 109=true:=by kernel_rfl
theorem rX:BQ prog 11=true:=by kernel_rfl
theorem Rq:BQ prog 110=true:=by kernel_rfl
theorem Vp:BQ prog 111=true:=by kernel_rfl
theorem Rv:BQ prog 112=true:=by kernel_rfl
theorem kP:BQ prog 113=true:=by kernel_rfl
theorem kQ:BQ prog 114=true:=by kernel_rfl
theorem lH:BQ prog 115=true:=by kernel_rfl
theorem Ri:BQ prog 116=true:=by kernel_rfl
theorem aP:BQ prog 117=true:=by kernel_rfl
theorem kZ:BQ prog 118=true:=by kernel_rfl
theorem nW:BQ prog 119=true:=by kernel_rfl
theorem tI:BQ prog 12=true:=by kernel_rfl
theorem Yd:BQ prog 120=true:=by kernel_rfl
theorem nC:BQ prog 121=true:=by kernel_rfl
theorem mC:BQ prog 122=true:=by kernel_rfl
theorem lC:BQ prog 123=true:=by kernel_rfl
theorem nM:BQ prog 124=true:=by kernel_rfl
theorem mB:BQ prog 125=true:=by kernel_rfl
theorem nI:BQ prog 126=true:=by kernel_rfl
theorem lU:BQ prog 127=true:=by kernel_rfl
theorem Yn:BQ prog 128=true:=by kernel_rfl
theorem lJ:BQ prog 129=true:=by kernel_rfl
theorem iN:BQ prog 13=true:=by kernel_rfl
theorem mA:BQ prog 130=true:=by kernel_rfl
theorem kL:BQ prog 131=true:=by kernel_rfl
theorem QM:BQ prog 132=true:=by kernel_rfl
theorem lB:BQ prog 133=true:=by kernel_rfl
theorem jY:BQ prog 134=true:=by kernel_rfl
theorem mO:BQ prog 135=true:=by kernel_rfl
theorem nX:BQ prog 136=true:=by kernel_rfl
theorem mS:BQ prog 137=true:=by kernel_rfl
theorem lW:BQ prog 138=true:=by kernel_rfl
theorem Zv:BQ prog 139=true:=by kernel_rfl
theorem pZ:BQ prog 14=true:=by kernel_rfl
theorem aZ:BQ prog 140=true:=by kernel_rfl
theorem lM:BQ prog 141=true:=by kernel_rfl
theorem mT:BQ prog 143=true:=by kernel_rfl
theorem oB:BQ prog 144=true:=by kernel_rfl
theorem mU:BQ prog 145=true:=by kernel_rfl
theorem mV:BQ prog 146=true:=by kernel_rfl
theorem kW:BQ prog 147=true:=by kernel_rfl
theorem SL:BQ prog 148=true:=by kernel_rfl
theorem mN:BQ prog 149=true:=by kernel_rfl
theorem qE:BQ prog 15=true:=by kernel_rfl
theorem kB:BQ prog 150=true:=by kernel_rfl
theorem nK:BQ prog 151=true:=by kernel_rfl
theorem cH:BQ prog 152=true:=by kernel_rfl
theorem lX:BQ prog 153=true:=by kernel_rfl
theorem RW:BQ prog 154=true:=by kernel_rfl
theorem kG:BQ prog 155=true:=by kernel_rfl
theorem Xz:BQ prog 156=true:=by kernel_rfl
theorem mX:BQ prog 157=true:=by kernel_rfl
theorem jV:BQ prog 158=true:=by kernel_rfl
theorem lK:BQ prog 159=true:=by kernel_rfl
theorem tN:BQ prog 16=true:=by kernel_rfl
theorem kU:BQ prog 160=true:=by kernel_rfl
theorem YR:BQ prog 161=true:=by kernel_rfl
theorem kJ:BQ prog 162=true:=by kernel_rfl
theorem Yo:BQ prog 163=true:=by kernel_rfl
theorem RR:BQ prog 164=true:=by kernel_rfl
theorem Vo:BQ prog 165=true:=by kernel_rfl
theorem TZ:BQ prog 166=true:=by kernel_rfl
theorem Te:BQ prog 167=true:=by kernel_rfl
theorem YZ:BQ prog 168=true:=by kernel_rfl
theorem lQ:BQ prog 169=true:=by kernel_rfl
theorem RC:BQ prog 17=true:=by kernel_rfl
theorem kM:BQ prog 170=true:=by kernel_rfl
theorem mR:BQ prog 171=true:=by kernel_rfl
theorem oA:BQ prog 172=true:=by kernel_rfl
theorem bW:BQ prog 173=true:=by kernel_rfl
theorem kC:BQ prog 174=true:=by kernel_rfl
theorem bG:BQ prog 175=true:=by kernel_rfl
theorem Zm:BQ prog 176=true:=by kernel_rfl
theorem jP:BQ prog 177=true:=by kernel_rfl
theorem bH:BQ prog 178=true:=by kernel_rfl
theorem ZB:BQ prog 179=true:=by kernel_rfl
theorem aH:BQ prog 18=true:=by kernel_rfl
theorem nP:BQ prog 180=true:=by kernel_rfl
theorem lG:BQ prog 181=true:=by kernel_rfl
theorem mW:BQ prog 182=true:=by kernel_rfl
theorem Yu:BQ prog 183=true:=by kernel_rfl
theorem kE:BQ prog 184=true:=by kernel_rfl
theorem nA:BQ prog 185=true:=by kernel_rfl
theorem Vv:BQ prog 186=true:=by kernel_rfl
theorem mJ:BQ prog 187=true:=by kernel_rfl
theorem nJ:BQ prog 188=true:=by kernel_rfl
theorem bL:BQ prog 189=true:=by kernel_rfl
theorem tX:BQ prog 19=true:=by kernel_rfl
theorem ZK:BQ prog 190=true:=by kernel_rfl
theorem ZO:BQ prog 191=true:=by kernel_rfl
theorem nE:BQ prog 192=true:=by kernel_rfl
theorem Ft:BQ prog 20=true:=by kernel_rfl
theorem VZ:BQ prog 201=true:=by kernel_rfl
theorem jT:BQ prog 202=true:=by kernel_rfl
theorem bC:BQ prog 203=true:=by kernel_rfl
theorem Zq:BQ prog 204=true:=by kernel_rfl
theorem oD:BQ prog 205=true:=by kernel_rfl
theorem iK:BQ prog 21=true:=by kernel_rfl
theorem nT:BQ prog 211=true:=by kernel_rfl
theorem nZ:BQ prog 212=true:=by kernel_rfl
theorem nF:BQ prog 213=true:=by kernel_rfl
theorem kS:BQ prog 214=true:=by kernel_rfl
theorem lV:BQ prog 215=true:=by kernel_rfl
theorem lA:BQ prog 216=true:=by kernel_rfl
theorem RH:BQ prog 22=true:=by kernel_rfl
theorem jZ:BQ prog 220=true:=by kernel_rfl
theorem Zy:BQ prog 221=true:=by kernel_rfl
theorem lN:BQ prog 225=true:=by kernel_rfl
theorem sL:BQ prog 23=true:=by kernel_rfl
theorem pE:BQ prog 24=true:=by kernel_rfl
theorem sK:BQ prog 25=true:=by kernel_rfl
theorem sV:BQ prog 26=true:=by kernel_rfl
theorem tW:BQ prog 27=true:=by kernel_rfl
theorem jB:BQ prog 28=true:=by kernel_rfl
theorem iX:BQ prog 29=true:=by kernel_rfl
theorem pN:BQ prog 30=true:=by kernel_rfl
theorem jE:BQ prog 31=true:=by kernel_rfl
theorem pL:BQ prog 32=true:=by kernel_rfl
theorem rQ:BQ prog 33=true:=by kernel_rfl
theorem iJ:BQ prog 34=true:=by kernel_rfl
theorem Sb:BQ prog 35=true:=by kernel_rfl
theorem oT:BQ prog 36=true:=by kernel_rfl
theorem uD:BQ prog 37=true:=by kernel_rfl
theorem qV:BQ prog 38=true:=by kernel_rfl
theorem tS:BQ prog 39=true:=by kernel_rfl
theorem zP:BQ prog 4=true:=by kernel_rfl
theorem sQ:BQ prog 40=true:=by kernel_rfl
theorem QZ:BQ prog 41=true:=by kernel_rfl
theorem Wb:BQ prog 42=true:=by kernel_rfl
theorem pJ:BQ prog 43=true:=by kernel_rfl
theorem rL:BQ prog 44=true:=by kernel_rfl
theorem tP:BQ prog 45=true:=by kernel_rfl
theorem qB:BQ prog 46=true:=by kernel_rfl
theorem tY:BQ prog 47=true:=by kernel_rfl
theorem WS:BQ prog 48=true:=by kernel_rfl
theorem rF:BQ prog 49=true:=by kernel_rfl
theorem wP:BQ prog 5=true:=by kernel_rfl
theorem tL:BQ prog 50=true:=by kernel_rfl
theorem sP:BQ prog 51=true:=by kernel_rfl
theorem Cq:BQ prog 52=true:=by kernel_rfl
theorem Wg:BQ prog 53=true:=by kernel_rfl
theorem pS:BQ prog 54=true:=by kernel_rfl
theorem qW:BQ prog 55=true:=by kernel_rfl
theorem rC:BQ prog 56=true:=by kernel_rfl
theorem rW:BQ prog 57=true:=by kernel_rfl
theorem rH:BQ prog 58=true:=by kernel_rfl
theorem tJ:BQ prog 59=true:=by kernel_rfl
theorem wB:BQ prog 6=true:=by kernel_rfl
theorem rT:BQ prog 60=true:=by kernel_rfl
theorem IS:BQ prog 61=true:=by kernel_rfl
theorem uH:BQ prog 62=true:=by kernel_rfl
theorem uL:BQ prog 63=true:=by kernel_rfl
theorem WE:BQ prog 64=true:=by kernel_rfl
theorem sF:BQ prog 67=true:=by kernel_rfl
theorem qR:BQ prog 68=true:=by kernel_rfl
theorem Ys:BQ prog 69=true:=by kernel_rfl
theorem yE:BQ prog 7=true:=by kernel_rfl
theorem aB:BQ prog 70=true:=by kernel_rfl
theorem jM:BQ prog 71=true:=by kernel_rfl
theorem Yb:BQ prog 72=true:=by kernel_rfl
theorem qG:BQ prog 73=true:=by kernel_rfl
theorem uO:BQ prog 74=true:=by kernel_rfl
theorem rM:BQ prog 75=true:=by kernel_rfl
theorem ZM:BQ prog 76=true:=by kernel_rfl
theorem qN:BQ prog 77=true:=by kernel_rfl
theorem sD:BQ prog 78=true:=by kernel_rfl
theorem uV:BQ prog 79=true:=by kernel_rfl
theorem AbU:BQ prog 8=true:=by kernel_rfl
theorem sY:BQ prog 80=true:=by kernel_rfl
theorem Up:BQ prog 81=true:=by kernel_rfl
theorem aG:BQ prog 82=true:=by kernel_rfl
theorem rS:BQ prog 83=true:=by kernel_rfl
theorem bM:BQ prog 84=true:=by kernel_rfl
theorem rK:BQ prog 85=true:=by kernel_rfl
theorem uJ:BQ prog 86=true:=by kernel_rfl
theorem uR:BQ prog 87=true:=by kernel_rfl
theorem Tz:BQ prog 88=true:=by kernel_rfl
theorem qK:BQ prog 89=true:=by kernel_rfl
theorem AbC:BQ prog 9=true:=by kernel_rfl
theorem pV:BQ prog 90=true:=by kernel_rfl
theorem Sx:BQ prog 91=true:=by kernel_rfl
theorem jF:BQ prog 92=true:=by kernel_rfl
theorem uI:BQ prog 93=true:=by kernel_rfl
theorem oW:BQ prog 94=true:=by kernel_rfl
theorem rA:BQ prog 95=true:=by kernel_rfl
theorem iU:BQ prog 96=true:=by kernel_rfl
theorem jH:BQ prog 97=true:=by kernel_rfl
theorem tG:BQ prog 98=true:=by kernel_rfl
theorem uC:BQ prog 99=true:=by kernel_rfl
theorem nY:Ev prog 113=some ([.string ByteArray.empty, .i 0, .slice none 0 0, .slice none 0 0, .slice none 0 0, .i 0, .i 0],7,112):=by kernel_rfl
theorem VO:Ev prog 115=some ([.string ByteArray.empty, .i 0, .slice none 0 0],3,48):=by kernel_rfl
theorem Vg:Ev prog 124=some ([.slice none 0 0, .slice none 0 0, .slice none 0 0, .slice none 0 0],4,96):=by kernel_rfl
theorem mQ:Ev prog 147=some ([.slice none 0 0, .slice none 0 0, .slice none 0 0],3,72):=by kernel_rfl
theorem Ru:Ev prog 149=some ([.i 0, .i 0, .i 0, .bool false],4,32):=by kernel_rfl
theorem Oy:Ev prog 151=some ([.string ByteArray.empty, .i 0, .i 0],3,32):=by kernel_rfl
theorem My:Ev prog 162=some ([.i 0, .i 0, .i 0, .i 0],4,32):=by kernel_rfl
theorem Vn:Ev prog 165=some ([.i 0, .i 0, .i 0, .i 0, .i 0],5,40):=by kernel_rfl
theorem TK:Ev prog 172=some ([.i 0, .i 0, .i 0, .bool false],4,32):=by kernel_rfl
theorem Yp:Ev prog 186=some ([.i 0, .i 0],2,16):=by kernel_rfl
theorem DN:Ev prog 2=some ([.i 0],1,8):=by kernel_rfl
theorem SG:Ev prog 214=some ([.i 0, .i 0],2,16):=by kernel_rfl
theorem Pv:Ev prog 225=some ([.string ByteArray.empty, .i 0, .i 0, .bool false],4,40):=by kernel_rfl
theorem AcJ:Ev prog 3=some ([.i 0],1,8):=by kernel_rfl
theorem Ut:Ev prog 4=some ([.bool false],1,1):=by kernel_rfl
theorem jR:Ev prog 5=some ([.int .u8 0],1,1):=by kernel_rfl
theorem iY:Ev prog 52=some ([.i 0, .i 0],2,16):=by kernel_rfl
theorem QR:Ev prog 54=some ([.i 0, .i 0, .i 0],3,24):=by kernel_rfl
theorem RD:Ev prog 56=some ([.i 0, .i 0, .i 0, .i 0],4,32):=by kernel_rfl
theorem Pn:Ev prog 70=some ([.slice none 0 0],1,24):=by kernel_rfl
theorem TA:Ev prog 73=some ([.i 0, .i 0, .i 0, .i 0, .slice none 0 0, .slice none 0 0],6,80):=by kernel_rfl
theorem JP:Ev prog 9=some ([.string ByteArray.empty],1,16):=by kernel_rfl
theorem lO:∀(a0:Int) (a1:Int) (a2:Int),Wn prog 54 [.i a0, .i a1, .i a2]=true:=by intros;kernel_rfl
theorem WO:∀(a0:Int) (a1:Int),fC prog 52 [.i a0, .i a1]=true:=by intros;kernel_rfl
theorem oE:EF prog 102=some [(0,5),(5,1),(6,1),(7,1),(8,1),(9,1)]:=by kernel_rfl
theorem aT:EF prog 113=some [(0,1),(1,1),(2,1),(3,1),(4,1),(5,1),(6,1)]:=by kernel_rfl
theorem mD:EF prog 115=some [(0,1),(1,1),(2,1)]:=by kernel_rfl
theorem Ze:EF prog 124=some [(0,1),(1,1),(2,1),(3,1)]:=by kernel_rfl
theorem mL:EF prog 147=some [(0,1),(1,1),(2,1)]:=by kernel_rfl
theorem Zf:EF prog 149=some [(0,1),(1,1),(2,1),(3,1)]:=by kernel_rfl
theorem Rl:EF prog 151=some [(0,1),(1,1),(2,1)]:=by kernel_rfl
theorem Vm:EF prog 162=some [(0,1),(1,1),(2,1),(3,1)]:=by kernel_rfl
theorem TQ:EF prog 165=some [(0,1),(1,2),(3,2)]:=by kernel_rfl
theorem Yz:EF prog 172=some [(0,1),(1,1),(2,1),(3,1)]:=by kernel_rfl
theorem VS:EF prog 186=some [(0,1),(1,1)]:=by kernel_rfl
theorem JJ:EF prog 214=some [(0,1),(1,1)]:=by kernel_rfl
theorem RI:EF prog 225=some [(0,1),(1,1),(2,1),(3,1)]:=by kernel_rfl
theorem sS:EF prog 26=some [(0,1)]:=by kernel_rfl
theorem cC:EF prog 31=some [(0,1),(1,1),(2,1)]:=by kernel_rfl
theorem qY:EF prog 34=some [(0,1),(1,3),(4,1)]:=by kernel_rfl
theorem Wk:EF prog 38=some [(0,1),(1,1),(2,1)]:=by kernel_rfl
theorem tF:EF prog 40=some [(0,1),(1,1),(2,1)]:=by kernel_rfl
theorem JL:EF prog 52=some [(0,1),(1,1)]:=by kernel_rfl
theorem jI:EF prog 54=some [(0,1),(1,2)]:=by kernel_rfl
theorem Xr:EF prog 56=some [(0,1),(1,1),(2,1),(3,1)]:=by kernel_rfl
theorem Sc:EF prog 73=some [(0,1),(1,1),(2,1),(3,1),(4,1),(5,1)]:=by kernel_rfl
theorem rR:EF prog 80=some [(0,1),(1,1),(2,1)]:=by kernel_rfl
theorem WI:EF prog 82=some [(0,1),(1,1),(2,1),(3,1),(4,1)]:=by kernel_rfl
theorem nL:Fi prog 102=some [.slice none 0 0, .slice none 0 0, .slice none 0 0, .slice none 0 0, .slice none 0 0, .slice none 0 0, .slice none 0 0, .slice none 0 0, .slice none 0 0, .slice none 0 0]:=by kernel_rfl
theorem HM:Fi prog 113=some [.string ByteArray.empty, .i 0, .slice none 0 0, .slice none 0 0, .slice none 0 0, .i 0, .i 0]:=by kernel_rfl
theorem Mj:Fi prog 115=some [.string ByteArray.empty, .i 0, .slice none 0 0]:=by kernel_rfl
theorem Ki:Fi prog 124=some [.slice none 0 0, .slice none 0 0, .slice none 0 0, .slice none 0 0]:=by kernel_rfl
theorem VJ:Fi prog 147=some [.slice none 0 0, .slice none 0 0, .slice none 0 0]:=by kernel_rfl
theorem VY:Fi prog 149=some [.i 0, .i 0, .i 0, .bool false]:=by kernel_rfl
theorem MX:Fi prog 151=some [.string ByteArray.empty, .i 0, .i 0]:=by kernel_rfl
theorem TO:Fi prog 162=some [.i 0, .i 0, .i 0, .i 0]:=by kernel_rfl
theorem Oa:Fi prog 165=some [.i 0, .i 0, .i 0, .i 0, .i 0]:=by kernel_rfl
theorem SF:Fi prog 172=some [.i 0, .i 0, .i 0, .bool false]:=by kernel_rfl
theorem Rn:Fi prog 186=some [.i 0, .i 0]:=by kernel_rfl
theorem IW:Fi prog 214=some [.i 0, .i 0]:=by kernel_rfl
theorem NR:Fi prog 225=some [.string ByteArray.empty, .i 0, .i 0, .bool false]:=by kernel_rfl
theorem WB:Fi prog 26=some [.slice none 0 0]:=by kernel_rfl
theorem SC:Fi prog 31=some [.slice none 0 0, .slice none 0 0, .slice none 0 0]:=by kernel_rfl
theorem ND:Fi prog 34=some [.slice none 0 0, .slice none 0 0, .slice none 0 0, .slice none 0 0, .slice none 0 0]:=by kernel_rfl
theorem KQ:Fi prog 38=some [.slice none 0 0, .slice none 0 0, .slice none 0 0]:=by kernel_rfl
theorem Sw:Fi prog 40=some [.i 0, .i 0, .i 0]:=by kernel_rfl
theorem GS:Fi prog 52=some [.i 0, .i 0]:=by kernel_rfl
theorem WJ:Fi prog 54=some [.i 0, .i 0, .i 0]:=by kernel_rfl
theorem So:Fi prog 56=some [.i 0, .i 0, .i 0, .i 0]:=by kernel_rfl
theorem HU:Fi prog 73=some [.i 0, .i 0, .i 0, .i 0, .slice none 0 0, .slice none 0 0]:=by kernel_rfl
theorem tV:Fi prog 80=some [.slice none 0 0, .i 0, .i 0]:=by kernel_rfl
theorem PS:Fi prog 82=some [.string ByteArray.empty, .i 0, .i 0, .i 0, .i 0]:=by kernel_rfl
def Yt(n:Nat)(a0_s:ByteArray)(a1_cutset:ByteArray):Option ByteArray:=if a0_s.size<=9223372036854775807∧a1_cutset.size<4294967281∧(a1_cutset.data.toList.all fun b=>decide (b.toNat<128))=true then some ⟨(Lib.trimS a0_s.data.toList a1_cutset.data.toList).toArray⟩else none
theorem xU{n:Nat}{a0_s a1_cutset c:ByteArray}{w:World}(a:Yt n a0_s a1_cutset=some c):
 Calls prog 181 [.string a0_s, .string a1_cutset].toArray w (Fu fun d e=>d= .string c∧AU w e):=by
 unfold Yt at a
 split at a
 ·rename_i b
  obtain rfl:=AM a
  refine(strings_Trim_ascii a0_s a1_cutset w b.1 b.2.1 (fun g f hb=>CQ (CG.1 b.2.2 f (CL hb)))).mono ?_
  rintro h w' ⟨rfl,hB⟩
  exact⟨_,z,z,hB⟩
 ·cases a
def oC(n:Nat)(a0_s:ByteArray)(a1_c:Int):Option Int:=some (Lib.indexByte a0_s.data.toList a1_c.toNat.toUInt8)
theorem AbQ{n:Nat}{a0_s:ByteArray}{a1_c a:Int}{w:World}(b:oC n a0_s a1_c=some a):
 Calls prog 182 [.string a0_s, .int .u8 a1_c].toArray w (Fu fun c d=>c= .i a∧AU w d):=by
 obtain rfl:=AM b
 refine(strings_IndexByte a0_s a1_c w).mono ?_
 rintro e w' ⟨rfl,rfl⟩
 exact⟨_,z,z,AU.refl _⟩
def KS(a0:List ByteArray)(a1:ByteArray)(k0:Int->Option Int):Nat->Int->Option Int
 |0,_=>none
 |m+1,a=>cond (decide (a<(a0.length:Int))) ((AL a0 a).bind fun b=>cond (a1.toList==b.toList) (some a) (KS a0 a1 k0 m (wrap .i64 (a+1)))) (k0 a)
def dR(n:Nat)(a0:List ByteArray)(a1:ByteArray):Option Int:=KS a0 a1 (fun a=>some (-1)) n 0
theorem zQ{f:List ByteArray}{g:ByteArray}{i:Int}{j:Value}(a:dR n f g=some i)(m:H<=w.heap.size)(k:At Bc w H f j):
 Calls prog 187 [j,.string g].toArray w (Cf (.i i) w):=by
 have l:=AU.refl w;unfold dR at a;refine AE func187 z ntmps187 (Rc 9 (Yl z (HK z Ez (k.oj l)) (Ro 4 ?_)));refine WC.loopD (fun b h wl=>∃c:Int,Kn 19 [(0,j),(1,.string g),(7,.i ((f.length:Int))),(8,.i c)] h∧AU w wl∧KS f g (fun c=>(some (-1))) b c=some i) n ?_ ?_
 ·intro h d;exact⟨0,d.sub z,AU.refl _,a⟩
 ·rintro b h _ ⟨c,d,e,a⟩;refine EK d ?_;rcases b with _|b;exact EI a;rw [KS.eq_2]at a;have p:=e.size;refine Rc 6 (Wf a e ?_);intro a;refine Rc 15 (Il a (k.oj e) Ez Qm JW ?_);rintro _ a _;refine Ro 3 (Wt a e ?_);intro a;refine Rc 8 ?_;intro h d;exact⟨b,nr,(wrap .i64 (c+1)),d.sub z,e,a⟩
def cV(n:Nat)(a0:List ByteArray)(a1:ByteArray):Option Bool:=(dR n a0 a1).bind fun a=>some (decide (a>=0))
theorem AaL{b:List ByteArray}{c:ByteArray}{d:Bool}{e:Value}(a:cV n b c=some d)(j:H<=w.heap.size)(g:At Bc w H b e):
 Calls prog 172 [e,.string c].toArray w (Cf (.bool d) w):=by
 have f:=AU.refl w;unfold cV at a;refine AE func172 z ntmps172 (Rc 9 (Cs a f mJ (fun _ h=>(zQ h (by omega) (g.oj f):)) ?_));rintro _ a _ _ ⟨i,_⟩;exact GQ a i
def Lq(a0:List Int)(k0:Int->Int->Option Int):Nat->Int->Int->Option Int
 |0,_,_=>none
 |m+1,b,a=>cond (decide (a<(a0.length:Int))) ((AL a0 a).bind fun c=>Lq a0 k0 m (min b c) (wrap .i64 (a+1))) (k0 b a)
def cN(n:Nat)(a0:List Int):Option Int:=cond (decide ((a0.length:Int)<1)) none ((AL a0 0).bind fun c=>Lq a0 (fun a b=>some a) n c 1)
theorem xC{i:List Int}{j:Int}{k:Value}(a:cN n i=some j)(p:H<=w.heap.size)(g:At cJ w H i k):
 Calls prog 214 [k].toArray w (Cf (.i j) w):=by
 have l:=AU.refl w;unfold cN at a;refine AE func214 z ntmps214 (Rc 9 (Yl z (HK z Ak (g.oj l)) (Ro 3 (Wc z a ?_ ?_))))
 ·intro a;cases a
 ·intro a;refine Rc 5 (Il a (g.oj l) Ak Bb AR ?_);rintro m a _;refine Ro 10 (WC.loopD (fun c h wl=>∃b d:Int,Kn 25 [(0,k),(3,.i b),(4,.i d)] h∧AU w wl∧Lq i (fun b d=>(some b)) c b d=some j) n ?_ ?_)
  ·intro h e;exact⟨m,1,e.sub z,AU.refl _,a⟩
  ·rintro c h _ ⟨b,d,e,f,a⟩;refine EK e ?_;rcases c with _|c;exact EI a;rw [Lq.eq_2]at a;have r:=f.size;refine Rc 5 (Yl z (HK z Ak (g.oj f)) (Ro 3 (Wf a f ?_)));intro a;refine Rc 8 (Il a (g.oj f) Ak Bb AR ?_);rintro o a _;refine Yl z (GW z z z) (Ro 10 ?_);intro h e;exact⟨c,nr,(min b o),(wrap .i64 (d+1)),e.sub z,f,a⟩
def gW(n:Nat)(a0:List Int):Option (List Int):=(De (([]:List Int)) a0 8).bind fun a=>some a
theorem xJ{d b:List Int}{e:Value}(a:gW n d=some b)(s:H<=w.heap.size)(f:At cJ w H d e):
 Calls prog 134 [e].toArray w (Fu fun o g=>∃h,o=h∧AC cJ g w.heap.size (Iv 0 0) 2 b h∧AU w g):=by
 have i:=AU.refl w;unfold gW at a;refine AE func134 z ntmps134 (Rc 9 ?_)
 rcases AF.nil_or (f.oj i)with ⟨rfl,hnil⟩|⟨p_,n_,c_,rfl⟩
 ·replace a:(some (([]:List Int)))=some b:=(by simpa [hnil,De] using a);refine Yl z (UA z Ak z z) (Ro 2 (WC.cond_t z (Rc 7 ?_)));cases CF a;exact Ne z z ⟨_,z,_,z,AC.nil _ _ _ _ _,i⟩
 ·refine Yl z (Ux z Ak z z) (Ro 2 (WC.cond_f z (Rc 4 (Ef z (Aq cJ (([]:List Int)) [] z Ak DN z z trivial) ?_))));rintro _ _ ⟨_,j,_,_,c,p⟩;have A:=c.size;have k:=BK j;clear j;have⟨_,q,a⟩:=AO a;refine Ro 1 (Ef z (BA (c:=cJ) z Ak DN z z z z z p (by omega) (f.oj c) q) ?_);rintro _ _ ⟨l,m⟩;have⟨r,_⟩:=Ge c m k;have F:=HZ m l k;cases CF a;exact Ro 4 (Ne z z ⟨_,z,_,z,AC.base l,r⟩)
def UD(n:Nat)(a0:Int):Option Bool:=some ((a0 !=a0))
theorem eN{a:Int}{b:Bool}(c:UD n a=some b):
 Calls prog 64 [.i a].toArray w (Cf (.bool b) w):=by
 have d:=AU.refl w;unfold UD at c;exact AE func64 z ntmps64 (Xn c d)
def gE(n:Nat)(a0:Int)(a1:Int):Option Bool:=(UD n a0).bind fun b=>(cond b ((UD n a1).bind fun a=>some (!a)) (some false)).bind fun c=>some ((c||(decide (a0<a1))))
theorem AaT{b c:Int}{d:Bool}(a:gE n b c=some d):
 Calls prog 162 [.i b,.i c].toArray w (Cf (.bool d) w):=by
 have f:=AU.refl w;unfold gE at a;refine AE func162 z ntmps162 (Rc 8 (Cs a f WE (fun _=>eN) ?_));rintro _ a _ _ ⟨e,_⟩;refine Ro 1 (JD 4 [0,1] 11 7 a ?_ ?_)
 ·intro g a;refine Ro 1 (Cs a e WE (fun _=>eN) ?_);rintro _ a _ h ⟨_,_⟩;cases CF a;exact Ro 1 (Ro 1 (Gj h))
 intro g a;intro s H;have⟨i,_⟩:=Et e H;refine Ro 1 (rE 4 [] 16 12 ?_);exact GQ a i
def VW(n:Nat)(a0:Int):Option Bool:=some ((a0 !=a0))
theorem sT{a:Int}{b:Bool}(c:VW n a=some b):
 Calls prog 163 [.i a].toArray w (Cf (.bool b) w):=by
 have d:=AU.refl w;unfold VW at c;exact AE func163 z ntmps163 (Xn c d)
def Lj(n:Nat)(a0:List Int)(a1:Int)(k0:Int->Int->Option (Int×Bool)):Nat->Int->Int->Option (Int×Bool)
 |0,_,_=>none
 |m+1,a,b=>cond (decide (a<b)) ((AL a0 (wrap .i64 (Nz .u64 (IntKind.wrap IntKind.u64 (wrap .i64 (a+b))) 1))).bind fun d=>(gE n d a1).bind fun c=>cond c (Lj n a0 a1 k0 m (wrap .i64 ((wrap .i64 (Nz .u64 (IntKind.wrap IntKind.u64 (wrap .i64 (a+b))) 1))+1)) b) (Lj n a0 a1 k0 m a (wrap .i64 (Nz .u64 (IntKind.wrap IntKind.u64 (wrap .i64 (a+b))) 1)))) (k0 a b)
def XN(n:Nat)(a0:List Int)(a1:Int):Option (Int×Bool):=Lj n a0 a1 (fun a i=>(cond (decide (a<(a0.length:Int))) ((AL a0 a).bind fun g=>(cond (g==a1) (some true) ((AL a0 a).bind fun c=>(VW n c).bind fun e=>(cond e ((VW n a1).bind fun b=>some b) (some false)).bind fun f=>some f)).bind fun d=>some d) (some false)).bind fun h=>some (a,h)) n 0 ((a0.length:Int))
theorem zF{f:List Int}{g:Int}{h:Int×Bool}{j:Value}(hF:XN n f g=some h)(hH:H<=w.heap.size)(i:At cJ w H f j):
 Calls prog 143 [j,.i g].toArray w (Fu fun p q=>p= .tuple #[.i h.1,.bool h.2]∧AU w q):=by
 have r:=AU.refl w;unfold XN at hF;refine AE func143 z ntmps143 (Rc 9 (Yl z (HK z Ak (i.oj r)) (Ro 12 ?_)));have⟨s,t,hF⟩:=MW hF;refine WC.loopD (fun b c wl=>∃d e:Int,Kn 54 [(0,j),(1,.i g),(6,.i ((f.length:Int))),(7,.i d),(8,.i e)] c∧AU w wl∧Lj n f g s b d e=some h) n ?_ ?_
 ·intro c hK;exact⟨0,((f.length:Int)),hK.sub z,AU.refl _,hF⟩
 ·rintro b c _ ⟨d,e,hK,a,hF⟩;refine EK hK ?_;rcases b with _|b;exact EI hF;rw [Lj.eq_2]at hF;have F:=a.size;refine Rc 8 (Wc z hF ?_ ?_)
  ·intro hF;refine Rc 8 (Yl z (Hf z qF SZ z) (Yl z (Wq z z z (by decide)) (Yl z (Hf z SZ qF z) (Ro 7 (Il hF (i.oj a) Ak Bb AR ?_)))));rintro _ hF _;refine Ro 1 (Cs hF a kJ (fun _=>AaT) ?_);rintro _ hF _ k ⟨_,_⟩;refine Ro 2 (Wc z hF ?_ ?_)
   ·intro hF;refine Rc 7 ?_;intro c hK;exact⟨b,nr,(wrap .i64 ((wrap .i64 (Nz .u64 (IntKind.wrap IntKind.u64 (wrap .i64 (d+e))) 1))+1)),e,hK.sub z,(AU.trans a k),hF⟩
   ·intro hF;refine Rc 6 ?_;intro c hK;exact⟨b,nr,d,(wrap .i64 (Nz .u64 (IntKind.wrap IntKind.u64 (wrap .i64 (d+e))) 1)),hK.sub z,(AU.trans a k),hF⟩
  ·intro hF;refine Rc 3 ?_
   subst t
   refine Re 9 (JD 18 [31] 53 35 hF ?_ ?_)
   ·intro u hF;refine Ro 2 (Il hF (i.oj a) Ak Bb AR ?_);rintro _ hF _;refine Ro 3 (PI 10 [31,35] 52 42 hF ?_ ?_)
    ·intro v hF;refine Ro 2 (Il hF (i.oj a) Ak Bb AR ?_);rintro _ hF _;refine Cs hF a Yo (fun _=>sT) ?_;rintro _ hF _ x ⟨l,_⟩;refine Ro 1 (JD 3 [31,35,42] 51 48 hF ?_ ?_)
     ·intro y hF;refine Ro 1 (Cs hF l Yo (fun _=>sT) ?_);rintro _ hF _ A ⟨_,_⟩;cases CF hF;exact Ro 1 (Gj A)
     intro y hF;intro V m;have⟨_,_⟩:=Et l m;cases CF hF;exact Ro 1 (TL.nil fun c B=>⟨B.sub z,(AU.trans x m)⟩)
    intro v hF;intro Y o;have⟨_,_⟩:=Et a o;cases CF hF;exact Ro 1 (Gj o)
   intro u hF;intro b0 C;have⟨D,_⟩:=Et a C;exact GQ hF D
def fV(n:Nat)(a0:Int)(a1:Int):Option Int:=(UD n a0).bind fun b=>(UD n a1).bind fun a=>cond b (cond a (some 0) (some (-1))) (cond a (some 1) (cond (decide (a0<a1)) (some (-1)) (cond (decide (a0>a1)) (some 1) (some 0))))
theorem vT{c d e:Int}(a:fV n c d=some e):
 Calls prog 32 [.i c,.i d].toArray w (Cf (.i e) w):=by
 have f:=AU.refl w;unfold fV at a;refine AE func32 z ntmps32 (Rc 8 (Cs a f WE (fun _=>eN) ?_));rintro _ a i _ ⟨g,_⟩;refine Ro 6 (Cs a g WE (fun _=>eN) ?_);rintro _ a _ _ ⟨b,_⟩;refine Ro 9 (Wc z a ?_ ?_)
 ·intro a;refine Rc 6 (Wt a b ?_);intro a;exact Xn a b
 ·intro a;refine Rc 8 (Wt a b ?_);intro a;refine Rc 10 (Wt a b ?_);intro a;refine Rc 10 (Wt a b ?_);intro a;exact Xn a b
end Go.Proofs.YtejmafeocaidlabGreatDoor
