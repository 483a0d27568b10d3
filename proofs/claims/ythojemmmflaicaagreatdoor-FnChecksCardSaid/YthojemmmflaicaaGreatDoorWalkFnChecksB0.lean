/- The walks: every function that FnChecks reaches computes the plain function that is typed beside it; no condition. -/
import Derived.Test.YthojemmmflaicaaGreatDoorProg
import Derived.Test.YthojemmmflaicaaGreatDoorDat
import Derived.Test.YthojemmmflaicaaGreatDoorShelf
set_option linter.all false
set_option maxRecDepth 20000
set_option maxHeartbeats 40000000
namespace Go.Proofs.YthojemmmflaicaaGreatDoor
open Go Go.RowKit Go.Eng Go.Proofs.Tryz
open Go.IntKind (wrap)
variable {n H:Nat} {w:World}
abbrev aV:=@underlying2
abbrev lJ:=@underlying3
abbrev lR:=@underlying4
abbrev XR:=@underlying5
abbrev Ty:=@underlying9
abbrev Kb:=@underlying22
abbrev bR:=@underlying26
abbrev Ga:=@underlying27
abbrev EF:=@underlying30
abbrev CI:=@underlying31
abbrev GF:=@underlying32
abbrev FU:=@underlying35
abbrev DQ:=@underlying38
abbrev Dw:=@underlying39
abbrev Jc:=@underlying46
abbrev Yh:=@underlying65
abbrev AZ:=@underlying71
abbrev IA:=@underlying72
abbrev MU:=@underlying80
abbrev GI:=@underlying81
abbrev Jv:=@underlying82
abbrev Lv:=@underlying93
abbrev DY:=@underlying115
abbrev Cc:=@underlying116
abbrev Er:=@underlying129
abbrev PO:=@underlying162
abbrev Od:=@underlying193
abbrev OS:=@underlying198
abbrev Zv:=@underlying200
theorem Tryz.hm:Tryz.prog.follows .mixedOrders=true:=by kernel_rfl
theorem Cl:Ch prog 109=some true:=by kernel_rfl
theorem JN:Ch prog 114=some true:=by kernel_rfl
theorem Du:Ch prog 115=some false:=by kernel_rfl
theorem Dh:Ch prog 116=some false:=by kernel_rfl
theorem By:Ch prog 118=some true:=by kernel_rfl
theorem Hv:Ch prog 121=some true:=by kernel_rfl
theorem Gx:Ch prog 126=some true:=by kernel_rfl
theorem Fa:Ch prog 142=some true:=by kernel_rfl
theorem Rr:Ch prog 145=some true:=by kernel_rfl
theorem SN:Ch prog 147=some true:=by kernel_rfl
theorem OA:Ch prog 154=some true:=by kernel_rfl
theorem WA:Ch prog 166=some true:=by kernel_rfl
theorem Ru:Ch prog 169=some true:=by kernel_rfl
theorem AL:Ch prog 2=some false:=by kernel_rfl
theorem aP:Ch prog 200=some true:=by kernel_rfl
theorem Pc:Ch prog 210=some true:=by kernel_rfl
theorem Sh:Ch prog 22=some false:=by kernel_rfl
theorem UH:Ch prog 26=some false:=by kernel_rfl
theorem Es:Ch prog 27=some false:=by kernel_rfl
theorem Jr:Ch prog 29=some true:=by kernel_rfl
theorem OQ:Ch prog 3=some false:=by kernel_rfl
theorem ED:Ch prog 30=some false:=by kernel_rfl
theorem IH:Ch prog 31=some false:=by kernel_rfl
theorem GH:Ch prog 32=some false:=by kernel_rfl
theorem DD:Ch prog 34=some true:=by kernel_rfl
theorem EL:Ch prog 35=some false:=by kernel_rfl
theorem BC:Ch prog 37=some true:=by kernel_rfl
theorem HN:Ch prog 38=some false:=by kernel_rfl
theorem DU:Ch prog 39=some false:=by kernel_rfl
theorem Dl:Ch prog 4=some false:=by kernel_rfl
theorem Ci:Ch prog 41=some true:=by kernel_rfl
theorem Dp:Ch prog 43=some true:=by kernel_rfl
theorem ZI:Ch prog 5=some false:=by kernel_rfl
theorem OF:Ch prog 51=some true:=by kernel_rfl
theorem Di:Ch prog 70=some true:=by kernel_rfl
theorem BB:Ch prog 71=some false:=by kernel_rfl
theorem Zf:Ch prog 80=some false:=by kernel_rfl
theorem Zi:Ch prog 81=some false:=by kernel_rfl
theorem fC:Ch prog 82=some false:=by kernel_rfl
theorem EX:Ch prog 9=some false:=by kernel_rfl
theorem Eo:Ch prog 93=some false:=by kernel_rfl
theorem FE:Ch prog 95=some true:=by kernel_rfl
theorem Av:BP prog 109=some 2:=by kernel_rfl
theorem CN:BP prog 114=some 3:=by kernel_rfl
theorem VO:BP prog 115=some 1:=by kernel_rfl
theorem Rj:BP prog 116=some 1:=by kernel_rfl
theorem BI:BP prog 118=some 7:=by kernel_rfl
theorem EO:BP prog 121=some 3:=by kernel_rfl
theorem CH:BP prog 126=some 4:=by kernel_rfl
theorem DW:BP prog 142=some 4:=by kernel_rfl
theorem EZ:BP prog 145=some 4:=by kernel_rfl
theorem Dm:BP prog 147=some 5:=by kernel_rfl
theorem Fu:BP prog 154=some 4:=by kernel_rfl
theorem NK:BP prog 166=some 2:=by kernel_rfl
theorem Ec:BP prog 169=some 3:=by kernel_rfl
theorem Aw:BP prog 2=some 1:=by kernel_rfl
theorem SK:BP prog 200=some 2:=by kernel_rfl
theorem Dk:BP prog 210=some 4:=by kernel_rfl
theorem ZV:BP prog 26=some 1:=by kernel_rfl
theorem jZ:BP prog 27=some 1:=by kernel_rfl
theorem HX:BP prog 29=some 1:=by kernel_rfl
theorem QG:BP prog 3=some 1:=by kernel_rfl
theorem eY:BP prog 32=some 1:=by kernel_rfl
theorem Cj:BP prog 34=some 3:=by kernel_rfl
theorem gA:BP prog 35=some 1:=by kernel_rfl
theorem An:BP prog 37=some 5:=by kernel_rfl
theorem kC:BP prog 39=some 1:=by kernel_rfl
theorem Dx:BP prog 4=some 1:=by kernel_rfl
theorem Bj:BP prog 41=some 3:=by kernel_rfl
theorem DC:BP prog 43=some 3:=by kernel_rfl
theorem Xu:BP prog 5=some 1:=by kernel_rfl
theorem Hz:BP prog 51=some 4:=by kernel_rfl
theorem Bn:BP prog 70=some 5:=by kernel_rfl
theorem Gu:BP prog 71=some 1:=by kernel_rfl
theorem Zw:BP prog 81=some 1:=by kernel_rfl
theorem jP:BP prog 82=some 1:=by kernel_rfl
theorem Gv:BP prog 9=some 1:=by kernel_rfl
theorem Bk:BP prog 95=some 6:=by kernel_rfl
theorem QD:ZB prog 109 2=true:=by kernel_rfl
theorem Bp:Ac prog 109 0=some 0:=by kernel_rfl
theorem Bg:Ac prog 109 1=some 1:=by kernel_rfl
theorem QK:Ac prog 114 0=some 0:=by kernel_rfl
theorem DK:Ac prog 114 1=some 1:=by kernel_rfl
theorem CS:Ac prog 114 2=some 2:=by kernel_rfl
theorem Jk:Ac prog 118 0=some 0:=by kernel_rfl
theorem Kj:Ac prog 118 1=some 1:=by kernel_rfl
theorem CR:Ac prog 118 2=some 2:=by kernel_rfl
theorem CC:Ac prog 118 3=some 3:=by kernel_rfl
theorem Dr:Ac prog 118 4=some 4:=by kernel_rfl
theorem Qg:Ac prog 118 5=some 5:=by kernel_rfl
theorem Qk:Ac prog 118 6=some 6:=by kernel_rfl
theorem IF:Ac prog 121 0=some 0:=by kernel_rfl
theorem GM:Ac prog 121 1=some 1:=by kernel_rfl
theorem DZ:Ac prog 121 2=some 2:=by kernel_rfl
theorem Dq:Ac prog 126 0=some 0:=by kernel_rfl
theorem FB:Ac prog 126 1=some 1:=by kernel_rfl
theorem GL:Ac prog 126 2=some 2:=by kernel_rfl
theorem DN:Ac prog 126 3=some 3:=by kernel_rfl
theorem GO:Ac prog 142 0=some 0:=by kernel_rfl
theorem Fi:Ac prog 142 1=some 1:=by kernel_rfl
theorem Kh:Ac prog 142 2=some 2:=by kernel_rfl
theorem OI:Ac prog 142 3=some 3:=by kernel_rfl
theorem KG:Ac prog 145 0=some 0:=by kernel_rfl
theorem Qh:Ac prog 145 1=some 1:=by kernel_rfl
theorem Mi:Ac prog 145 2=some 2:=by kernel_rfl
theorem Oi:Ac prog 145 3=some 3:=by kernel_rfl
theorem IB:Ac prog 147 0=some 0:=by kernel_rfl
theorem Gm:Ac prog 147 1=some 1:=by kernel_rfl
theorem MM:Ac prog 147 2=some 3:=by kernel_rfl
theorem Oa:Ac prog 154 0=some 0:=by kernel_rfl
theorem RE:Ac prog 154 1=some 1:=by kernel_rfl
theorem KS:Ac prog 154 2=some 2:=by kernel_rfl
theorem ON:Ac prog 154 3=some 3:=by kernel_rfl
theorem Qd:Ac prog 166 0=some 0:=by kernel_rfl
theorem RG:Ac prog 166 1=some 1:=by kernel_rfl
theorem QT:Ac prog 169 0=some 0:=by kernel_rfl
theorem GN:Ac prog 169 1=some 1:=by kernel_rfl
theorem IE:Ac prog 169 2=some 2:=by kernel_rfl
theorem MP:Ac prog 210 0=some 0:=by kernel_rfl
theorem Mh:Ac prog 210 1=some 1:=by kernel_rfl
theorem IK:Ac prog 210 2=some 2:=by kernel_rfl
theorem EA:Ac prog 210 3=some 3:=by kernel_rfl
theorem Cv:Ac prog 29 0=some 0:=by kernel_rfl
theorem CW:Ac prog 34 0=some 0:=by kernel_rfl
theorem Em:Ac prog 34 1=some 1:=by kernel_rfl
theorem Dj:Ac prog 34 2=some 2:=by kernel_rfl
theorem Ei:Ac prog 37 0=some 0:=by kernel_rfl
theorem CB:Ac prog 37 1=some 1:=by kernel_rfl
theorem CZ:Ac prog 37 2=some 4:=by kernel_rfl
theorem ER:Ac prog 41 0=some 0:=by kernel_rfl
theorem Da:Ac prog 41 1=some 1:=by kernel_rfl
theorem Dy:Ac prog 41 2=some 2:=by kernel_rfl
theorem JG:Ac prog 43 0=some 0:=by kernel_rfl
theorem Ks:Ac prog 43 1=some 1:=by kernel_rfl
theorem HU:Ac prog 43 2=some 2:=by kernel_rfl
theorem IZ:Ac prog 51 0=some 0:=by kernel_rfl
theorem Kz:Ac prog 51 1=some 1:=by kernel_rfl
theorem LB:Ac prog 51 2=some 2:=by kernel_rfl
theorem Ma:Ac prog 51 3=some 3:=by kernel_rfl
theorem Sd:Ac prog 55 0=some 0:=by kernel_rfl
theorem Nq:Ac prog 55 1=some 1:=by kernel_rfl
theorem MN:Ac prog 55 2=some 2:=by kernel_rfl
theorem TD:Ac prog 68 0=some 0:=by kernel_rfl
theorem Nr:Ac prog 68 1=some 1:=by kernel_rfl
theorem HS:Ac prog 68 2=some 2:=by kernel_rfl
theorem Sm:Ac prog 70 0=some 0:=by kernel_rfl
theorem MR:Ac prog 70 1=some 1:=by kernel_rfl
theorem MT:Ac prog 70 2=some 2:=by kernel_rfl
theorem Mk:Ac prog 70 3=some 3:=by kernel_rfl
theorem MZ:Ac prog 70 4=some 4:=by kernel_rfl
theorem MV:Ac prog 84 0=some 0:=by kernel_rfl
theorem Sn:Ac prog 84 1=some 5:=by kernel_rfl
theorem Nk:Ac prog 84 2=some 6:=by kernel_rfl
theorem SZ:Ac prog 84 3=some 7:=by kernel_rfl
theorem Sx:Ac prog 84 4=some 8:=by kernel_rfl
theorem Cr:Ac prog 95 0=some 0:=by kernel_rfl
theorem Ds:Ac prog 95 1=some 1:=by kernel_rfl
theorem Cw:Ac prog 95 2=some 2:=by kernel_rfl
theorem EG:Ac prog 95 3=some 3:=by kernel_rfl
theorem FK:Ac prog 95 4=some 4:=by kernel_rfl
theorem GD:Ac prog 95 5=some 5:=by kernel_rfl
theorem iK:As prog 10=true:=by kernel_rfl
theorem dG:As prog 100=true:=by kernel_rfl
theorem aC:As prog 101=true:=by kernel_rfl
theorem OX:As prog 102=true:=by kernel_rfl
theorem Vc:As prog 103=true:=by kernel_rfl
theorem aL:As prog 104=true:=by kernel_rfl
theorem cO:As prog 105=true:=by kernel_rfl
theorem VI:As prog 106=true:=by kernel_rfl
theorem cQ:As prog 107=true:=by kernel_rfl
theorem dT:As prog 108=true:=by kernel_rfl
theorem bT:As prog 109=true:=by kernel_rfl
theorem jI:As prog 11=true:=by kernel_rfl
theorem cZ:As prog 110=true:=by kernel_rfl
theorem dV:As prog 111=true:=by kernel_rfl
theorem dU:As prog 112=true:=by kernel_rfl
theorem aQ:As prog 113=true:=by kernel_rfl
theorem VN:As prog 114=true:=by kernel_rfl
theorem aA:As prog 115=true:=by kernel_rfl
theorem dI:As prog 116=true:=by kernel_rfl
theorem dM:As prog 117=true:=by kernel_rfl
theorem Mx:As prog 118=true:=by kernel_rfl
theorem cE:As prog 119=true:=by kernel_rfl
theorem jJ:As prog 12=true:=by kernel_rfl
theorem cL:As prog 120=true:=by kernel_rfl
theorem dH:As prog 121=true:=by kernel_rfl
theorem dL:As prog 122=true:=by kernel_rfl
theorem aX:As prog 123=true:=by kernel_rfl
theorem aT:As prog 124=true:=by kernel_rfl
theorem Uw:As prog 125=true:=by kernel_rfl
theorem cG:As prog 126=true:=by kernel_rfl
theorem bP:As prog 127=true:=by kernel_rfl
theorem Ly:As prog 128=true:=by kernel_rfl
theorem cU:As prog 129=true:=by kernel_rfl
theorem fT:As prog 13=true:=by kernel_rfl
theorem eB:As prog 130=true:=by kernel_rfl
theorem Pr:As prog 131=true:=by kernel_rfl
theorem cH:As prog 132=true:=by kernel_rfl
theorem OD:As prog 133=true:=by kernel_rfl
theorem dO:As prog 134=true:=by kernel_rfl
theorem bH:As prog 135=true:=by kernel_rfl
theorem OW:As prog 136=true:=by kernel_rfl
theorem UG:As prog 137=true:=by kernel_rfl
theorem cJ:As prog 138=true:=by kernel_rfl
theorem OR:As prog 139=true:=by kernel_rfl
theorem ZY:As prog 14=true:=by kernel_rfl
theorem bI:As prog 140=true:=by kernel_rfl
theorem Wd:As prog 141=true:=by kernel_rfl
theorem cV:As prog 142=true:=by kernel_rfl
theorem aB:As prog 143=true:=by kernel_rfl
theorem eA:As prog 144=true:=by kernel_rfl
theorem cW:As prog 145=true:=by kernel_rfl
theorem Vg:As prog 146=true:=by kernel_rfl
theorem aS:As prog 147=true:=by kernel_rfl
theorem cK:As prog 148=true:=by kernel_rfl
theorem Vh:As prog 149=true:=by kernel_rfl
theorem jY:As prog 15=true:=by kernel_rfl
theorem bU:As prog 150=true:=by kernel_rfl
theorem bF:As prog 151=true:=by kernel_rfl
theorem aI:As prog 152=true:=by kernel_rfl
theorem Rt:As prog 153=true:=by kernel_rfl
theorem Lb:As prog 154=true:=by kernel_rfl
theorem Lx:As prog 155=true:=by kernel_rfl
theorem Uk:As prog 156=true:=by kernel_rfl
theorem Zy:As prog 157=true:=by kernel_rfl
theorem dY:As prog 158=true:=by kernel_rfl
theorem dC:As prog 159=true:=by kernel_rfl
theorem fY:As prog 16=true:=by kernel_rfl
theorem cY:As prog 160=true:=by kernel_rfl
theorem Ua:As prog 161=true:=by kernel_rfl
theorem Ue:As prog 162=true:=by kernel_rfl
theorem Ut:As prog 163=true:=by kernel_rfl
theorem Hl:As prog 164=true:=by kernel_rfl
theorem WG:As prog 165=true:=by kernel_rfl
theorem Un:As prog 166=true:=by kernel_rfl
theorem aO:As prog 167=true:=by kernel_rfl
theorem Wy:As prog 168=true:=by kernel_rfl
theorem Wq:As prog 169=true:=by kernel_rfl
theorem iV:As prog 17=true:=by kernel_rfl
theorem cB:As prog 170=true:=by kernel_rfl
theorem dS:As prog 171=true:=by kernel_rfl
theorem bB:As prog 172=true:=by kernel_rfl
theorem Vw:As prog 173=true:=by kernel_rfl
theorem dB:As prog 174=true:=by kernel_rfl
theorem bQ:As prog 175=true:=by kernel_rfl
theorem Rp:As prog 176=true:=by kernel_rfl
theorem cX:As prog 177=true:=by kernel_rfl
theorem bG:As prog 178=true:=by kernel_rfl
theorem UC:As prog 179=true:=by kernel_rfl
theorem Zk:As prog 18=true:=by kernel_rfl
theorem WO:As prog 180=true:=by kernel_rfl
theorem Vp:As prog 181=true:=by kernel_rfl
theorem bC:As prog 182=true:=by kernel_rfl
theorem fG:As prog 19=true:=by kernel_rfl
theorem SH:As prog 191=true:=by kernel_rfl
theorem bS:As prog 192=true:=by kernel_rfl
theorem VV:As prog 193=true:=by kernel_rfl
theorem cD:As prog 194=true:=by kernel_rfl
theorem dX:As prog 195=true:=by kernel_rfl
theorem gW:As prog 20=true:=by kernel_rfl
theorem aH:As prog 201=true:=by kernel_rfl
theorem cM:As prog 202=true:=by kernel_rfl
theorem dA:As prog 203=true:=by kernel_rfl
theorem bW:As prog 204=true:=by kernel_rfl
theorem bX:As prog 205=true:=by kernel_rfl
theorem dN:As prog 206=true:=by kernel_rfl
theorem Ww:As prog 207=true:=by kernel_rfl
theorem iP:As prog 21=true:=by kernel_rfl
theorem cS:As prog 211=true:=by kernel_rfl
theorem WL:As prog 212=true:=by kernel_rfl
theorem bY:As prog 216=true:=by kernel_rfl
theorem gQ:As prog 22=true:=by kernel_rfl
theorem ZU:As prog 23=true:=by kernel_rfl
theorem kW:As prog 24=true:=by kernel_rfl
theorem Zd:As prog 25=true:=by kernel_rfl
theorem Ot:As prog 26=true:=by kernel_rfl
theorem eS:As prog 27=true:=by kernel_rfl
theorem RJ:As prog 28=true:=by kernel_rfl
theorem fL:As prog 29=true:=by kernel_rfl
theorem fS:As prog 30=true:=by kernel_rfl
theorem gK:As prog 31=true:=by kernel_rfl
theorem gT:As prog 32=true:=by kernel_rfl
theorem Su:As prog 33=true:=by kernel_rfl
theorem ZT:As prog 34=true:=by kernel_rfl
theorem gJ:As prog 35=true:=by kernel_rfl
theorem kQ:As prog 36=true:=by kernel_rfl
theorem BE:As prog 37=true:=by kernel_rfl
theorem PZ:As prog 38=true:=by kernel_rfl
theorem Zp:As prog 39=true:=by kernel_rfl
theorem mE:As prog 4=true:=by kernel_rfl
theorem Zo:As prog 40=true:=by kernel_rfl
theorem SV:As prog 41=true:=by kernel_rfl
theorem jK:As prog 42=true:=by kernel_rfl
theorem jB:As prog 43=true:=by kernel_rfl
theorem hY:As prog 44=true:=by kernel_rfl
theorem kD:As prog 45=true:=by kernel_rfl
theorem Sp:As prog 46=true:=by kernel_rfl
theorem Fm:As prog 47=true:=by kernel_rfl
theorem Ub:As prog 48=true:=by kernel_rfl
theorem fO:As prog 49=true:=by kernel_rfl
theorem rL:As prog 5=true:=by kernel_rfl
theorem iG:As prog 50=true:=by kernel_rfl
theorem gM:As prog 51=true:=by kernel_rfl
theorem iD:As prog 52=true:=by kernel_rfl
theorem So:As prog 53=true:=by kernel_rfl
theorem WE:As prog 54=true:=by kernel_rfl
theorem Zr:As prog 55=true:=by kernel_rfl
theorem ML:As prog 56=true:=by kernel_rfl
theorem EM:As prog 57=true:=by kernel_rfl
theorem Zt:As prog 58=true:=by kernel_rfl
theorem Va:As prog 59=true:=by kernel_rfl
theorem mP:As prog 6=true:=by kernel_rfl
theorem gY:As prog 60=true:=by kernel_rfl
theorem fH:As prog 61=true:=by kernel_rfl
theorem eR:As prog 62=true:=by kernel_rfl
theorem jL:As prog 63=true:=by kernel_rfl
theorem fR:As prog 64=true:=by kernel_rfl
theorem iE:As prog 65=true:=by kernel_rfl
theorem QV:As prog 66=true:=by kernel_rfl
theorem TC:As prog 67=true:=by kernel_rfl
theorem fM:As prog 68=true:=by kernel_rfl
theorem Wr:As prog 69=true:=by kernel_rfl
theorem iQ:As prog 7=true:=by kernel_rfl
theorem kK:As prog 70=true:=by kernel_rfl
theorem Ug:As prog 71=true:=by kernel_rfl
theorem gC:As prog 72=true:=by kernel_rfl
theorem RC:As prog 73=true:=by kernel_rfl
theorem eV:As prog 74=true:=by kernel_rfl
theorem kB:As prog 75=true:=by kernel_rfl
theorem PV:As prog 76=true:=by kernel_rfl
theorem UI:As prog 77=true:=by kernel_rfl
theorem kH:As prog 78=true:=by kernel_rfl
theorem gP:As prog 79=true:=by kernel_rfl
theorem mG:As prog 8=true:=by kernel_rfl
theorem iI:As prog 80=true:=by kernel_rfl
theorem Zg:As prog 81=true:=by kernel_rfl
theorem Zj:As prog 82=true:=by kernel_rfl
theorem fQ:As prog 83=true:=by kernel_rfl
theorem jQ:As prog 84=true:=by kernel_rfl
theorem kV:As prog 85=true:=by kernel_rfl
theorem ZX:As prog 86=true:=by kernel_rfl
theorem eU:As prog 87=true:=by kernel_rfl
theorem kZ:As prog 88=true:=by kernel_rfl
theorem jN:As prog 89=true:=by kernel_rfl
theorem oX:As prog 9=true:=by kernel_rfl
theorem Vu:As prog 90=true:=by kernel_rfl
theorem TE:As prog 91=true:=by kernel_rfl
theorem eW:As prog 92=true:=by kernel_rfl
theorem Zq:As prog 93=true:=by kernel_rfl
theorem RB:As prog 94=true:=by kernel_rfl
theorem PT:As prog 95=true:=by kernel_rfl
theorem RM:As prog 96=true:=by kernel_rfl
theorem Uq:As prog 97=true:=by kernel_rfl
theorem RD:As prog 98=true:=by kernel_rfl
theorem eX:As prog 99=true:=by kernel_rfl
theorem Hw:DL prog 109=some ([.i 0, .i 0],2,16):=by kernel_rfl
theorem Rq:DL prog 114=some ([.string ByteArray.empty, .i 0, .slice none 0 0],3,48):=by kernel_rfl
theorem Zz:DL prog 118=some ([.string ByteArray.empty, .i 0, .slice none 0 0, .slice none 0 0, .slice none 0 0, .i 0, .i 0],7,112):=by kernel_rfl
theorem aM:DL prog 121=some ([.slice none 0 0, .slice none 0 0, .slice none 0 0],3,72):=by kernel_rfl
theorem SI:DL prog 126=some ([.slice none 0 0, .slice none 0 0, .slice none 0 0, .slice none 0 0],4,96):=by kernel_rfl
theorem Jp:DL prog 142=some ([.i 0, .i 0, .i 0, .i 0],4,32):=by kernel_rfl
theorem OM:DL prog 145=some ([.i 0, .i 0, .i 0, .bool false],4,32):=by kernel_rfl
theorem SU:DL prog 147=some ([.i 0, .i 0, .i 0, .i 0, .i 0],5,40):=by kernel_rfl
theorem Px:DL prog 154=some ([.i 0, .i 0, .i 0, .bool false],4,32):=by kernel_rfl
theorem WR:DL prog 166=some ([.i 0, .i 0],2,16):=by kernel_rfl
theorem Li:DL prog 169=some ([.string ByteArray.empty, .i 0, .i 0],3,32):=by kernel_rfl
theorem Be:DL prog 2=some ([.i 0],1,8):=by kernel_rfl
theorem OT:DL prog 200=some ([.i 0, .i 0],2,16):=by kernel_rfl
theorem NM:DL prog 210=some ([.string ByteArray.empty, .i 0, .i 0, .bool false],4,40):=by kernel_rfl
theorem pC:DL prog 3=some ([.i 0],1,8):=by kernel_rfl
theorem Na:DL prog 4=some ([.bool false],1,1):=by kernel_rfl
theorem bM:DL prog 5=some ([.int .u8 0],1,1):=by kernel_rfl
theorem NY:DL prog 51=some ([.i 0, .i 0, .i 0, .i 0],4,32):=by kernel_rfl
theorem MQ:DL prog 71=some ([.slice none 0 0],1,24):=by kernel_rfl
theorem Eh:DL prog 9=some ([.string ByteArray.empty],1,16):=by kernel_rfl
theorem PS:DL prog 95=some ([.i 0, .i 0, .i 0, .i 0, .slice none 0 0, .slice none 0 0],6,80):=by kernel_rfl
theorem Pg:∀(a0:Int) (a1:Int),Xb prog 109 [.i a0, .i a1]=true:=by intros;kernel_rfl
theorem Ey:CT prog 109=some [(0,1),(1,1)]:=by kernel_rfl
theorem Zx:CT prog 114=some [(0,1),(1,1),(2,1)]:=by kernel_rfl
theorem XA:CT prog 118=some [(0,1),(1,1),(2,1),(3,1),(4,1),(5,1),(6,1)]:=by kernel_rfl
theorem aF:CT prog 121=some [(0,1),(1,1),(2,1)]:=by kernel_rfl
theorem WM:CT prog 126=some [(0,1),(1,1),(2,1),(3,1)]:=by kernel_rfl
theorem Ry:CT prog 142=some [(0,1),(1,1),(2,1),(3,1)]:=by kernel_rfl
theorem WI:CT prog 145=some [(0,1),(1,1),(2,1),(3,1)]:=by kernel_rfl
theorem Pq:CT prog 147=some [(0,1),(1,2),(3,2)]:=by kernel_rfl
theorem Ux:CT prog 154=some [(0,1),(1,1),(2,1),(3,1)]:=by kernel_rfl
theorem SG:CT prog 166=some [(0,1),(1,1)]:=by kernel_rfl
theorem Of:CT prog 169=some [(0,1),(1,1),(2,1)]:=by kernel_rfl
theorem GW:CT prog 200=some [(0,1),(1,1)]:=by kernel_rfl
theorem Nw:CT prog 210=some [(0,1),(1,1),(2,1),(3,1)]:=by kernel_rfl
theorem fF:CT prog 29=some [(0,1)]:=by kernel_rfl
theorem US:CT prog 34=some [(0,1),(1,1),(2,1)]:=by kernel_rfl
theorem gX:CT prog 37=some [(0,1),(1,3),(4,1)]:=by kernel_rfl
theorem MX:CT prog 41=some [(0,1),(1,1),(2,1)]:=by kernel_rfl
theorem Zh:CT prog 43=some [(0,1),(1,1),(2,1)]:=by kernel_rfl
theorem Qt:CT prog 51=some [(0,1),(1,1),(2,1),(3,1)]:=by kernel_rfl
theorem jS:CT prog 55=some [(0,1),(1,1),(2,1)]:=by kernel_rfl
theorem kJ:CT prog 68=some [(0,1),(1,1),(2,1)]:=by kernel_rfl
theorem FO:CT prog 70=some [(0,1),(1,1),(2,1),(3,1),(4,1)]:=by kernel_rfl
theorem fX:CT prog 84=some [(0,5),(5,1),(6,1),(7,1),(8,1),(9,1)]:=by kernel_rfl
theorem Sc:CT prog 95=some [(0,1),(1,1),(2,1),(3,1),(4,1),(5,1)]:=by kernel_rfl
theorem CG:Do prog 109=some [.i 0, .i 0]:=by kernel_rfl
theorem KE:Do prog 114=some [.string ByteArray.empty, .i 0, .slice none 0 0]:=by kernel_rfl
theorem Eb:Do prog 118=some [.string ByteArray.empty, .i 0, .slice none 0 0, .slice none 0 0, .slice none 0 0, .i 0, .i 0]:=by kernel_rfl
theorem Rw:Do prog 121=some [.slice none 0 0, .slice none 0 0, .slice none 0 0]:=by kernel_rfl
theorem HD:Do prog 126=some [.slice none 0 0, .slice none 0 0, .slice none 0 0, .slice none 0 0]:=by kernel_rfl
theorem Pn:Do prog 142=some [.i 0, .i 0, .i 0, .i 0]:=by kernel_rfl
theorem Pp:Do prog 145=some [.i 0, .i 0, .i 0, .bool false]:=by kernel_rfl
theorem Ld:Do prog 147=some [.i 0, .i 0, .i 0, .i 0, .i 0]:=by kernel_rfl
theorem OC:Do prog 154=some [.i 0, .i 0, .i 0, .bool false]:=by kernel_rfl
theorem Ok:Do prog 166=some [.i 0, .i 0]:=by kernel_rfl
theorem Kl:Do prog 169=some [.string ByteArray.empty, .i 0, .i 0]:=by kernel_rfl
theorem Fs:Do prog 200=some [.i 0, .i 0]:=by kernel_rfl
theorem KC:Do prog 210=some [.string ByteArray.empty, .i 0, .i 0, .bool false]:=by kernel_rfl
theorem TB:Do prog 29=some [.slice none 0 0]:=by kernel_rfl
theorem OV:Do prog 34=some [.slice none 0 0, .slice none 0 0, .slice none 0 0]:=by kernel_rfl
theorem Ki:Do prog 37=some [.slice none 0 0, .slice none 0 0, .slice none 0 0, .slice none 0 0, .slice none 0 0]:=by kernel_rfl
theorem FA:Do prog 41=some [.slice none 0 0, .slice none 0 0, .slice none 0 0]:=by kernel_rfl
theorem Om:Do prog 43=some [.i 0, .i 0, .i 0]:=by kernel_rfl
theorem OH:Do prog 51=some [.i 0, .i 0, .i 0, .i 0]:=by kernel_rfl
theorem kM:Do prog 55=some [.slice none 0 0, .i 0, .int .u64 0]:=by kernel_rfl
theorem iN:Do prog 68=some [.slice none 0 0, .i 0, .i 0]:=by kernel_rfl
theorem Cz:Do prog 70=some [.string ByteArray.empty, .i 0, .i 0, .i 0, .i 0]:=by kernel_rfl
theorem fV:Do prog 84=some [.slice none 0 0, .slice none 0 0, .slice none 0 0, .slice none 0 0, .slice none 0 0, .slice none 0 0, .slice none 0 0, .slice none 0 0, .slice none 0 0, .slice none 0 0]:=by kernel_rfl
theorem FP:Do prog 95=some [.i 0, .i 0, .i 0, .i 0, .slice none 0 0, .slice none 0 0]:=by kernel_rfl
def XK(n:Nat)(a0_s:ByteArray)(a1_cutset:ByteArray):Option ByteArray:=if a0_s.size<=9223372036854775807∧a1_cutset.size<4294967281∧(a1_cutset.data.toList.all fun b=>decide (b.toNat<128))=true then some ⟨(Lib.trimS a0_s.data.toList a1_cutset.data.toList).toArray⟩else none
theorem nM{n:Nat}{a0_s a1_cutset c:ByteArray}{w:World}(a:XK n a0_s a1_cutset=some c):
 Calls prog 171 [.string a0_s, .string a1_cutset].toArray w (Dc fun d e=>d= .string c∧AP w e):=by
 unfold XK at a
 split at a
 ·rename_i b
  obtain rfl:=Option.some.inj a
  refine(strings_Trim_ascii a0_s a1_cutset w b.1 b.2.1 (fun g f hb=>of_decide_eq_true (List.all_eq_true.1 b.2.2 f (List.mem_of_getElem? hb)))).mono ?_
  rintro h w' ⟨rfl,hB⟩
  exact⟨_,z,z,hB⟩
 ·cases a
def aZ(n:Nat)(a0_s:ByteArray)(a1_c:Int):Option Int:=some (Lib.indexByte a0_s.data.toList a1_c.toNat.toUInt8)
theorem nO{n:Nat}{a0_s:ByteArray}{a1_c a:Int}{w:World}(b:aZ n a0_s a1_c=some a):
 Calls prog 172 [.string a0_s, .int .u8 a1_c].toArray w (Dc fun c d=>c= .i a∧AP w d):=by
 obtain rfl:=Option.some.inj b
 refine(strings_IndexByte a0_s a1_c w).mono ?_
 rintro e w' ⟨rfl,rfl⟩
 exact⟨_,z,z,AP.refl _⟩
def HR(a0:List ByteArray)(a1:ByteArray)(k0:Int->Option Int):Nat->Int->Option Int
 |0,_=>none
 |m+1,a=>cond (decide (a<(a0.length:Int))) ((AI a0 a).bind fun b=>cond (a1.toList==b.toList) (some a) (HR a0 a1 k0 m (wrap .i64 (a+1)))) (k0 a)
def ZP(n:Nat)(a0:List ByteArray)(a1:ByteArray):Option Int:=HR a0 a1 (fun a=>some (-1)) n 0
theorem nF{f:List ByteArray}{g:ByteArray}{i:Int}{j:Value}(a:ZP n f g=some i)(m:H<=w.heap.size)(k:Ad Au w H f j):
 Calls prog 177 [j,.string g].toArray w (BY (.i i) w):=by
 have l:=AP.refl w;unfold ZP at a;refine AE func177 z ntmps177 (Rc 9 (Yl z (Ew z CI (k.oj l)) (Ro 4 ?_)));refine WC.loopD (fun b h wl=>∃c:Int,Kn 19 [(0,j),(1,.string g),(7,.i ((f.length:Int))),(8,.i c)] h∧AP w wl∧HR f g (fun c=>(some (-1))) b c=some i) n ?_ ?_
 ·intro h d;exact⟨0,d.sub z,AP.refl _,a⟩
 ·rintro b h o ⟨c,d,e,a⟩;refine Cb d ?_;rcases b with _|b;exact CX a;rw [HR.eq_2]at a;have p:=e.size;refine Rc 6 (Wf a e ?_);intro a;refine Rc 15 (Il a (k.oj e) CI Gv EX ?_);rintro q a _;refine Ro 3 (Wt a e ?_);intro a;refine Rc 8 ?_;intro h d;exact⟨b,nr,(wrap .i64 (c+1)),d.sub z,e,a⟩
def WD(n:Nat)(a0:List ByteArray)(a1:ByteArray):Option Bool:=(ZP n a0 a1).bind fun a=>some (decide (a>=0))
theorem qA{b:List ByteArray}{c:ByteArray}{d:Bool}{e:Value}(a:WD n b c=some d)(j:H<=w.heap.size)(g:Ad Au w H b e):
 Calls prog 160 [e,.string c].toArray w (BY (.bool d) w):=by
 have f:=AP.refl w;unfold WD at a;refine AE func160 z ntmps160 (Rc 9 (Cs a f cX (fun _ h=>(nF h (by omega) (g.oj f):)) ?_));rintro k a l m ⟨i,o⟩;exact Dn a i
def JQ(a0:List Int)(k0:Int->Int->Option Int):Nat->Int->Int->Option Int
 |0,_,_=>none
 |m+1,b,a=>cond (decide (a<(a0.length:Int))) ((AI a0 a).bind fun c=>JQ a0 k0 m (min b c) (wrap .i64 (a+1))) (k0 b a)
def VZ(n:Nat)(a0:List Int):Option Int:=cond (decide ((a0.length:Int)<1)) none ((AI a0 0).bind fun c=>JQ a0 (fun a b=>some a) n c 1)
theorem pV{i:List Int}{j:Int}{k:Value}(a:VZ n i=some j)(p:H<=w.heap.size)(g:Ad (AG .i64) w H i k):
 Calls prog 204 [k].toArray w (BY (.i j) w):=by
 have l:=AP.refl w;unfold VZ at a;refine AE func204 z ntmps204 (Rc 9 (Yl z (Ew z AZ (g.oj l)) (Ro 3 (Wc z a ?_ ?_))))
 ·intro a;cases a
 ·intro a;refine Rc 5 (Il a (g.oj l) AZ Aw AL ?_);rintro m a _;refine Ro 10 (WC.loopD (fun c h wl=>∃b d:Int,Kn 25 [(0,k),(3,.i b),(4,.i d)] h∧AP w wl∧JQ i (fun b d=>(some b)) c b d=some j) n ?_ ?_)
  ·intro h e;exact⟨m,1,e.sub z,AP.refl _,a⟩
  ·rintro c h q ⟨b,d,e,f,a⟩;refine Cb e ?_;rcases c with _|c;exact CX a;rw [JQ.eq_2]at a;have r:=f.size;refine Rc 5 (Yl z (Ew z AZ (g.oj f)) (Ro 3 (Wf a f ?_)));intro a;refine Rc 8 (Il a (g.oj f) AZ Aw AL ?_);rintro o a _;refine Yl z (GP z z z) (Ro 10 ?_);intro h e;exact⟨c,nr,(min b o),(wrap .i64 (d+1)),e.sub z,f,a⟩
def YQ(n:Nat)(a0:List Int):Option (List Int):=(Bv (([]:List Int)) a0 8).bind fun a=>some a
theorem nZ{d b:List Int}{e:Value}(a:YQ n d=some b)(s:H<=w.heap.size)(f:Ad (AG .i64) w H d e):
 Calls prog 120 [e].toArray w (Dc fun o g=>∃h,o=h∧AC (AG .i64) g w.heap.size (Iv 0 0) 2 b h∧AP w g):=by
 have i:=AP.refl w;unfold YQ at a;refine AE func120 z ntmps120 (Rc 9 ?_)
 rcases AD.nil_or (f.oj i)with ⟨rfl,hnil⟩|⟨p_,n_,c_,rfl⟩
 ·replace a:(some (([]:List Int)))=some b:=(by simpa [hnil,Bv] using a);refine Yl z (QS z AZ z z) (Ro 2 (WC.cond_t z (Rc 7 ?_)));cases BO a;exact Ne z z ⟨_,z,_,z,AC.nil _ _ _ _ _,i⟩
 ·refine Yl z (Qm z AZ z z) (Ro 2 (WC.cond_f z (Rc 4 (Ef z (AY (AG .i64) (([]:List Int)) [] z AZ Be z z trivial) ?_))));rintro t u ⟨v,j,x,y,c,p⟩;have A:=c.size;have k:=Ae j;clear j;have⟨B,q,a⟩:=AJ a;refine Ro 1 (Ef z (Ab (c:=(AG .i64)) z AZ Be z z z z z p (by omega) (f.oj c) q) ?_);rintro C D ⟨l,m⟩;have⟨r,E⟩:=Ge c m k;have F:=ET m l k;cases BO a;exact Ro 4 (Ne z z ⟨_,z,_,z,AC.base l,r⟩)
def Wo(n:Nat)(a0:Int):Option Bool:=some ((a0 !=a0))
theorem gS{a:Int}{b:Bool}(c:Wo n a=some b):
 Calls prog 163 [.i a].toArray w (BY (.bool b) w):=by
 have d:=AP.refl w;unfold Wo at c;exact AE func163 z ntmps163 (VL c d)
def Xd(n:Nat)(a0:Int)(a1:Int):Option Bool:=(Wo n a0).bind fun b=>(cond b ((Wo n a1).bind fun c=>some (!c)) (some false)).bind fun a=>some ((a||(decide (a0<a1))))
theorem qZ{b c:Int}{d:Bool}(a:Xd n b c=some d):
 Calls prog 148 [.i b,.i c].toArray w (BY (.bool d) w):=by
 have f:=AP.refl w;unfold Xd at a;refine AE func148 z ntmps148 (Rc 8 (Cs a f Ut (fun _=>gS) ?_));rintro j a k l ⟨e,m⟩;refine Ro 1 (GC 4 [0,1] 11 7 a ?_ ?_)
 ·intro g a;refine Ro 1 (Cs a e Ut (fun _=>gS) ?_);rintro o a p h ⟨q,r⟩;cases BO a;exact Ro 1 (Ro 1 (Dz h))
 intro g a;intro s H;have⟨i,t⟩:=Et e H;refine Ro 1 (eN 4 [] 16 12 ?_);exact Dn a i
def SB(n:Nat)(a0:Int):Option Bool:=some ((a0 !=a0))
theorem jH{a:Int}{b:Bool}(c:SB n a=some b):
 Calls prog 149 [.i a].toArray w (BY (.bool b) w):=by
 have d:=AP.refl w;unfold SB at c;exact AE func149 z ntmps149 (VL c d)
def IV(n:Nat)(a0:List Int)(a1:Int)(k0:Int->Int->Option (Int×Bool)):Nat->Int->Int->Option (Int×Bool)
 |0,_,_=>none
 |m+1,b,a=>cond (decide (b<a)) ((AI a0 (wrap .i64 (Nc .u64 (IntKind.wrap IntKind.u64 (wrap .i64 (b+a))) 1))).bind fun d=>(Xd n d a1).bind fun c=>cond c (IV n a0 a1 k0 m (wrap .i64 ((wrap .i64 (Nc .u64 (IntKind.wrap IntKind.u64 (wrap .i64 (b+a))) 1))+1)) a) (IV n a0 a1 k0 m b (wrap .i64 (Nc .u64 (IntKind.wrap IntKind.u64 (wrap .i64 (b+a))) 1)))) (k0 b a)
def TO(n:Nat)(a0:List Int)(a1:Int):Option (Int×Bool):=IV n a0 a1 (fun a i=>(cond (decide (a<(a0.length:Int))) ((AI a0 a).bind fun h=>(cond (h==a1) (some true) ((AI a0 a).bind fun c=>(SB n c).bind fun e=>(cond e ((SB n a1).bind fun b=>some b) (some false)).bind fun d=>some d)).bind fun f=>some f) (some false)).bind fun g=>some (a,g)) n 0 ((a0.length:Int))
theorem nE{f:List Int}{g:Int}{h:Int×Bool}{j:Value}(hF:TO n f g=some h)(hH:H<=w.heap.size)(i:Ad (AG .i64) w H f j):
 Calls prog 129 [j,.i g].toArray w (Dc fun p q=>p= .tuple #[.i h.1,.bool h.2]∧AP w q):=by
 have r:=AP.refl w;unfold TO at hF;refine AE func129 z ntmps129 (Rc 9 (Yl z (Ew z AZ (i.oj r)) (Ro 12 ?_)));have⟨s,t,hF⟩:=Ju hF;refine WC.loopD (fun b c wl=>∃d e:Int,Kn 54 [(0,j),(1,.i g),(6,.i ((f.length:Int))),(7,.i d),(8,.i e)] c∧AP w wl∧IV n f g s b d e=some h) n ?_ ?_
 ·intro c hK;exact⟨0,((f.length:Int)),hK.sub z,AP.refl _,hF⟩
 ·rintro b c E ⟨d,e,hK,a,hF⟩;refine Cb hK ?_;rcases b with _|b;exact CX hF;rw [IV.eq_2]at hF;have F:=a.size;refine Rc 8 (Wc z hF ?_ ?_)
  ·intro hF;refine Rc 8 (Yl z (EJ z lJ Yh z) (Yl z (Sz z z z (by decide)) (Yl z (EJ z Yh lJ z) (Ro 7 (Il hF (i.oj a) AZ Aw AL ?_)))));rintro G hF _;refine Ro 1 (Cs hF a cK (fun _=>qZ) ?_);rintro I hF J k ⟨K,L⟩;refine Ro 2 (Wc z hF ?_ ?_)
   ·intro hF;refine Rc 7 ?_;intro c hK;exact⟨b,nr,(wrap .i64 ((wrap .i64 (Nc .u64 (IntKind.wrap IntKind.u64 (wrap .i64 (d+e))) 1))+1)),e,hK.sub z,(AP.trans a k),hF⟩
   ·intro hF;refine Rc 6 ?_;intro c hK;exact⟨b,nr,d,(wrap .i64 (Nc .u64 (IntKind.wrap IntKind.u64 (wrap .i64 (d+e))) 1)),hK.sub z,(AP.trans a k),hF⟩
  ·intro hF;refine Rc 3 ?_
   subst t
   refine Re 9 (GC 18 [31] 53 35 hF ?_ ?_)
   ·intro u hF;refine Ro 2 (Il hF (i.oj a) AZ Aw AL ?_);rintro M hF _;refine Ro 3 (MH 10 [31,35] 52 42 hF ?_ ?_)
    ·intro v hF;refine Ro 2 (Il hF (i.oj a) AZ Aw AL ?_);rintro N hF _;refine Cs hF a Vh (fun _=>jH) ?_;rintro O hF P x ⟨l,Q⟩;refine Ro 1 (GC 3 [31,35,42] 51 48 hF ?_ ?_)
     ·intro y hF;refine Ro 1 (Cs hF l Vh (fun _=>jH) ?_);rintro R hF S A ⟨T,U⟩;cases BO hF;exact Ro 1 (Dz A)
     intro y hF;intro V m;have⟨W,X⟩:=Et l m;cases BO hF;exact Ro 1 (TL.nil fun c B=>⟨B.sub z,(AP.trans x m)⟩)
    intro v hF;intro Y o;have⟨Z,a0⟩:=Et a o;cases BO hF;exact Ro 1 (Dz o)
   intro u hF;intro b0 C;have⟨D,c0⟩:=Et a C;exact Dn hF D
end Go.Proofs.YthojemmmflaicaaGreatDoor
