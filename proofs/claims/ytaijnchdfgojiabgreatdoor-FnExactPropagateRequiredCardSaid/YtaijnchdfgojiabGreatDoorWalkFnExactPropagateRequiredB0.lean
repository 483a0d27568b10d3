/- The walks: every function that FnExactPropagateRequired reaches computes the plain function that is typed beside it; no condition. -/
import Derived.Test.YtaijnchdfgojiabGreatDoorProg
import Derived.Test.YtaijnchdfgojiabGreatDoorDat
import Derived.Test.YtaijnchdfgojiabGreatDoorShelf
set_option linter.all false
set_option maxRecDepth 20000
set_option maxHeartbeats 40000000
namespace Go.Proofs.YtaijnchdfgojiabGreatDoor
open Go Go.RowKit Go.Eng Go.Proofs.Tryz
open Go.IntKind (wrap)
variable {n H:Nat} {w:World}
abbrev ud2:=@underlying2
abbrev ud3:=@underlying3
abbrev sI:=@underlying4
abbrev ud5:=@underlying5
abbrev SK:=@underlying9
abbrev UR:=@underlying22
abbrev AkC:=@underlying24
abbrev Vl:=@underlying25
abbrev DV:=@underlying26
abbrev Vt:=@underlying27
abbrev AkH:=@underlying29
abbrev Uc:=@underlying30
abbrev AhF:=@underlying32
abbrev AiH:=@underlying34
abbrev Ac:=@underlying35
abbrev Da:=@underlying36
abbrev aJ:=@underlying37
abbrev AfK:=@underlying39
abbrev gX:=@underlying40
abbrev Ec:=@underlying45
abbrev Ex:=@underlying50
abbrev Ev:=@underlying53
abbrev FX:=@underlying54
abbrev FU:=@underlying57
abbrev Gq:=@underlying67
abbrev Fu:=@underlying87
abbrev AcH:=@underlying104
abbrev yQ:=@underlying106
abbrev xS:=@underlying128
abbrev Cy:=@underlying135
abbrev Ch:=@underlying136
abbrev EY:=@underlying141
abbrev Fv:=@underlying150
abbrev yS:=@underlying164
abbrev PQ:=@underlying191
abbrev PO:=@underlying192
abbrev yG:=@underlying194
abbrev AaR:=@underlying196
abbrev AaK:=@underlying199
abbrev Hm:=@underlying212
abbrev OM:=@underlying217
abbrev HD:=@underlying228
abbrev PY:=@underlying267
abbrev nU:=@underlying269
abbrev oE:=@underlying277
abbrev yA:=@underlying282
abbrev Pk:=@underlying284
abbrev AaQ:=@underlying286
abbrev aI:=@underlying313
abbrev QQ:=@underlying322
abbrev AbD:=@underlying330
theorem Tryz.hm:Tryz.prog.follows .mixedOrders=true:=by kernel_rfl
theorem Yr:Bf prog 104=some true:=by kernel_rfl
theorem tE:Bf prog 106=some true:=by kernel_rfl
theorem Up:Bf prog 107=some false:=by kernel_rfl
theorem cH:Bf prog 128=some true:=by kernel_rfl
theorem DZ:Bf prog 135=some false:=by kernel_rfl
theorem EQ:Bf prog 136=some false:=by kernel_rfl
theorem DO:Bf prog 138=some true:=by kernel_rfl
theorem Gm:Bf prog 140=some true:=by kernel_rfl
theorem Cw:Bf prog 141=some false:=by kernel_rfl
theorem En:Bf prog 143=some true:=by kernel_rfl
theorem DH:Bf prog 153=some true:=by kernel_rfl
theorem Gu:Bf prog 161=some true:=by kernel_rfl
theorem HT:Bf prog 165=some false:=by kernel_rfl
theorem ZU:Bf prog 191=some false:=by kernel_rfl
theorem dJ:Bf prog 192=some false:=by kernel_rfl
theorem iE:Bf prog 194=some true:=by kernel_rfl
theorem ZE:Bf prog 196=some true:=by kernel_rfl
theorem dC:Bf prog 199=some true:=by kernel_rfl
theorem AK:Bf prog 2=some false:=by kernel_rfl
theorem aY:Bf prog 205=some true:=by kernel_rfl
theorem NC:Bf prog 206=some true:=by kernel_rfl
theorem Qz:Bf prog 212=some false:=by kernel_rfl
theorem RD:Bf prog 215=some true:=by kernel_rfl
theorem UU:Bf prog 217=some false:=by kernel_rfl
theorem nT:Bf prog 22=some false:=by kernel_rfl
theorem nW:Bf prog 24=some true:=by kernel_rfl
theorem oN:Bf prog 25=some false:=by kernel_rfl
theorem Gz:Bf prog 253=some true:=by kernel_rfl
theorem HC:Bf prog 26=some false:=by kernel_rfl
theorem vC:Bf prog 269=some true:=by kernel_rfl
theorem pJ:Bf prog 27=some false:=by kernel_rfl
theorem KZ:Bf prog 279=some true:=by kernel_rfl
theorem cJ:Bf prog 282=some true:=by kernel_rfl
theorem Rq:Bf prog 284=some false:=by kernel_rfl
theorem dU:Bf prog 286=some true:=by kernel_rfl
theorem nV:Bf prog 29=some true:=by kernel_rfl
theorem TE:Bf prog 3=some false:=by kernel_rfl
theorem pH:Bf prog 30=some false:=by kernel_rfl
theorem TA:Bf prog 32=some true:=by kernel_rfl
theorem eK:Bf prog 326=some true:=by kernel_rfl
theorem eY:Bf prog 330=some true:=by kernel_rfl
theorem Wr:Bf prog 34=some true:=by kernel_rfl
theorem Ah:Bf prog 35=some false:=by kernel_rfl
theorem EI:Bf prog 36=some false:=by kernel_rfl
theorem Wd:Bf prog 37=some false:=by kernel_rfl
theorem SU:Bf prog 39=some true:=by kernel_rfl
theorem Dl:Bf prog 4=some false:=by kernel_rfl
theorem DS:Bf prog 45=some false:=by kernel_rfl
theorem Eh:Bf prog 47=some true:=by kernel_rfl
theorem FS:Bf prog 50=some false:=by kernel_rfl
theorem Ib:Bf prog 52=some true:=by kernel_rfl
theorem Ew:Bf prog 53=some false:=by kernel_rfl
theorem Fw:Bf prog 54=some false:=by kernel_rfl
theorem DW:Bf prog 56=some true:=by kernel_rfl
theorem FT:Bf prog 57=some false:=by kernel_rfl
theorem CC:Bf prog 59=some true:=by kernel_rfl
theorem EX:Bf prog 61=some true:=by kernel_rfl
theorem IX:Bf prog 65=some true:=by kernel_rfl
theorem AdC:Bf prog 67=some false:=by kernel_rfl
theorem Ic:Bf prog 87=some false:=by kernel_rfl
theorem Dy:Bf prog 9=some false:=by kernel_rfl
theorem CR:Bf prog 92=some true:=by kernel_rfl
theorem Gc:Bf prog 94=some true:=by kernel_rfl
theorem Ul:As prog 104=some 2:=by kernel_rfl
theorem cZ:As prog 106=some 3:=by kernel_rfl
theorem Qt:As prog 128=some 4:=by kernel_rfl
theorem wK:As prog 135=some 1:=by kernel_rfl
theorem sF:As prog 136=some 1:=by kernel_rfl
theorem BW:As prog 138=some 7:=by kernel_rfl
theorem Br:As prog 140=some 3:=by kernel_rfl
theorem bG:As prog 141=some 1:=by kernel_rfl
theorem BU:As prog 143=some 6:=by kernel_rfl
theorem Bg:As prog 153=some 4:=by kernel_rfl
theorem CF:As prog 161=some 4:=by kernel_rfl
theorem RO:As prog 194=some 7:=by kernel_rfl
theorem Qo:As prog 196=some 3:=by kernel_rfl
theorem RY:As prog 199=some 3:=by kernel_rfl
theorem Al:As prog 2=some 1:=by kernel_rfl
theorem Gp:As prog 205=some 4:=by kernel_rfl
theorem Cv:As prog 206=some 3:=by kernel_rfl
theorem GE:As prog 215=some 4:=by kernel_rfl
theorem sJ:As prog 217=some 1:=by kernel_rfl
theorem oO:As prog 24=some 1:=by kernel_rfl
theorem DI:As prog 253=some 3:=by kernel_rfl
theorem zV:As prog 26=some 1:=by kernel_rfl
theorem Vv:As prog 269=some 2:=by kernel_rfl
theorem CK:As prog 279=some 4:=by kernel_rfl
theorem RB:As prog 282=some 4:=by kernel_rfl
theorem RG:As prog 286=some 6:=by kernel_rfl
theorem oD:As prog 29=some 3:=by kernel_rfl
theorem MC:As prog 3=some 1:=by kernel_rfl
theorem Td:As prog 32=some 5:=by kernel_rfl
theorem OJ:As prog 326=some 2:=by kernel_rfl
theorem Rv:As prog 330=some 3:=by kernel_rfl
theorem Wq:As prog 34=some 5:=by kernel_rfl
theorem HA:As prog 35=some 1:=by kernel_rfl
theorem AbS:As prog 36=some 1:=by kernel_rfl
theorem Sv:As prog 39=some 3:=by kernel_rfl
theorem EH:As prog 4=some 1:=by kernel_rfl
theorem nR:As prog 45=some 1:=by kernel_rfl
theorem Cq:As prog 47=some 2:=by kernel_rfl
theorem yV:As prog 50=some 1:=by kernel_rfl
theorem Hb:As prog 52=some 1:=by kernel_rfl
theorem AaB:As prog 53=some 1:=by kernel_rfl
theorem AaS:As prog 54=some 1:=by kernel_rfl
theorem DC:As prog 56=some 3:=by kernel_rfl
theorem AaA:As prog 57=some 1:=by kernel_rfl
theorem Bx:As prog 59=some 5:=by kernel_rfl
theorem EL:As prog 61=some 5:=by kernel_rfl
theorem HX:As prog 65=some 3:=by kernel_rfl
theorem oK:As prog 87=some 1:=by kernel_rfl
theorem HV:As prog 9=some 1:=by kernel_rfl
theorem Ax:As prog 92=some 2:=by kernel_rfl
theorem Bz:As prog 94=some 3:=by kernel_rfl
theorem Wa:kK prog 92 2=true:=by kernel_rfl
theorem dI:AL prog 104 0=some 0:=by kernel_rfl
theorem Zo:AL prog 104 1=some 1:=by kernel_rfl
theorem dH:AL prog 106 0=some 0:=by kernel_rfl
theorem Yv:AL prog 106 1=some 1:=by kernel_rfl
theorem TC:AL prog 128 0=some 0:=by kernel_rfl
theorem Sh:AL prog 128 1=some 1:=by kernel_rfl
theorem UC:AL prog 128 2=some 2:=by kernel_rfl
theorem Ti:AL prog 128 3=some 3:=by kernel_rfl
theorem Fb:AL prog 138 0=some 0:=by kernel_rfl
theorem In:AL prog 138 1=some 1:=by kernel_rfl
theorem Bu:AL prog 138 2=some 2:=by kernel_rfl
theorem CX:AL prog 138 3=some 3:=by kernel_rfl
theorem EC:AL prog 138 4=some 4:=by kernel_rfl
theorem Ia:AL prog 138 5=some 5:=by kernel_rfl
theorem Ie:AL prog 138 6=some 6:=by kernel_rfl
theorem IS:AL prog 140 0=some 0:=by kernel_rfl
theorem Ds:AL prog 140 1=some 1:=by kernel_rfl
theorem DU:AL prog 140 2=some 2:=by kernel_rfl
theorem Cz:AL prog 143 0=some 0:=by kernel_rfl
theorem Cd:AL prog 143 1=some 1:=by kernel_rfl
theorem By:AL prog 143 2=some 2:=by kernel_rfl
theorem Cc:AL prog 143 3=some 3:=by kernel_rfl
theorem Dq:AL prog 143 4=some 4:=by kernel_rfl
theorem Dp:AL prog 143 5=some 5:=by kernel_rfl
theorem PC:AL prog 153 0=some 0:=by kernel_rfl
theorem DT:AL prog 153 1=some 1:=by kernel_rfl
theorem Fm:AL prog 153 2=some 2:=by kernel_rfl
theorem IW:AL prog 153 3=some 3:=by kernel_rfl
theorem EG:AL prog 161 0=some 0:=by kernel_rfl
theorem EV:AL prog 161 1=some 1:=by kernel_rfl
theorem FH:AL prog 161 2=some 2:=by kernel_rfl
theorem Dd:AL prog 161 3=some 3:=by kernel_rfl
theorem Ek:AL prog 176 0=some 0:=by kernel_rfl
theorem KY:AL prog 176 1=some 1:=by kernel_rfl
theorem Tv:AL prog 194 0=some 0:=by kernel_rfl
theorem aA:AL prog 194 1=some 1:=by kernel_rfl
theorem Su:AL prog 194 2=some 2:=by kernel_rfl
theorem Tj:AL prog 194 3=some 3:=by kernel_rfl
theorem SW:AL prog 194 4=some 4:=by kernel_rfl
theorem ZA:AL prog 194 5=some 5:=by kernel_rfl
theorem iG:AL prog 194 6=some 6:=by kernel_rfl
theorem Te:AL prog 196 0=some 0:=by kernel_rfl
theorem Za:AL prog 196 1=some 1:=by kernel_rfl
theorem SY:AL prog 196 2=some 2:=by kernel_rfl
theorem TQ:AL prog 199 0=some 0:=by kernel_rfl
theorem dL:AL prog 199 1=some 1:=by kernel_rfl
theorem fN:AL prog 199 2=some 2:=by kernel_rfl
theorem NT:AL prog 205 0=some 0:=by kernel_rfl
theorem TU:AL prog 205 1=some 1:=by kernel_rfl
theorem Nf:AL prog 205 2=some 2:=by kernel_rfl
theorem Tn:AL prog 205 3=some 3:=by kernel_rfl
theorem Im:AL prog 206 0=some 0:=by kernel_rfl
theorem Ej:AL prog 206 1=some 1:=by kernel_rfl
theorem FC:AL prog 206 2=some 2:=by kernel_rfl
theorem Oq:AL prog 215 0=some 0:=by kernel_rfl
theorem gZ:AL prog 215 1=some 1:=by kernel_rfl
theorem If:AL prog 215 2=some 2:=by kernel_rfl
theorem Po:AL prog 215 3=some 3:=by kernel_rfl
theorem Ts:AL prog 219 0=some 0:=by kernel_rfl
theorem Nd:AL prog 219 1=some 5:=by kernel_rfl
theorem Dc:AL prog 219 2=some 6:=by kernel_rfl
theorem NJ:AL prog 219 3=some 7:=by kernel_rfl
theorem NK:AL prog 219 4=some 8:=by kernel_rfl
theorem TO:AL prog 219 5=some 9:=by kernel_rfl
theorem Ws:AL prog 24 0=some 0:=by kernel_rfl
theorem FG:AL prog 253 0=some 0:=by kernel_rfl
theorem EW:AL prog 253 1=some 1:=by kernel_rfl
theorem CW:AL prog 253 2=some 2:=by kernel_rfl
theorem Gk:AL prog 279 0=some 0:=by kernel_rfl
theorem Gh:AL prog 279 1=some 1:=by kernel_rfl
theorem FB:AL prog 279 2=some 2:=by kernel_rfl
theorem DG:AL prog 279 3=some 3:=by kernel_rfl
theorem UH:AL prog 282 0=some 0:=by kernel_rfl
theorem aG:AL prog 282 1=some 1:=by kernel_rfl
theorem bB:AL prog 282 2=some 2:=by kernel_rfl
theorem fJ:AL prog 282 3=some 3:=by kernel_rfl
theorem Zj:AL prog 286 0=some 0:=by kernel_rfl
theorem ZJ:AL prog 286 1=some 1:=by kernel_rfl
theorem dZ:AL prog 286 2=some 2:=by kernel_rfl
theorem iA:AL prog 286 3=some 3:=by kernel_rfl
theorem SL:AL prog 286 4=some 4:=by kernel_rfl
theorem Sa:AL prog 286 5=some 5:=by kernel_rfl
theorem Wm:AL prog 29 0=some 0:=by kernel_rfl
theorem WL:AL prog 29 1=some 1:=by kernel_rfl
theorem WO:AL prog 29 2=some 2:=by kernel_rfl
theorem UI:AL prog 326 0=some 0:=by kernel_rfl
theorem Ss:AL prog 326 1=some 1:=by kernel_rfl
theorem Wj:AL prog 32 0=some 0:=by kernel_rfl
theorem WR:AL prog 32 1=some 1:=by kernel_rfl
theorem Wb:AL prog 32 2=some 4:=by kernel_rfl
theorem Tm:AL prog 330 0=some 0:=by kernel_rfl
theorem SJ:AL prog 330 1=some 1:=by kernel_rfl
theorem UA:AL prog 330 2=some 2:=by kernel_rfl
theorem WB:AL prog 34 0=some 0:=by kernel_rfl
theorem kQ:AL prog 34 1=some 1:=by kernel_rfl
theorem mT:AL prog 34 2=some 2:=by kernel_rfl
theorem lI:AL prog 34 3=some 3:=by kernel_rfl
theorem kG:AL prog 34 4=some 4:=by kernel_rfl
theorem WJ:AL prog 39 0=some 0:=by kernel_rfl
theorem WD:AL prog 39 1=some 1:=by kernel_rfl
theorem WP:AL prog 39 2=some 2:=by kernel_rfl
theorem HE:AL prog 47 0=some 0:=by kernel_rfl
theorem FI:AL prog 47 1=some 1:=by kernel_rfl
theorem DD:AL prog 52 0=some 0:=by kernel_rfl
theorem Cb:AL prog 56 0=some 0:=by kernel_rfl
theorem EN:AL prog 56 1=some 1:=by kernel_rfl
theorem DX:AL prog 56 2=some 2:=by kernel_rfl
theorem FL:AL prog 59 0=some 0:=by kernel_rfl
theorem CZ:AL prog 59 1=some 1:=by kernel_rfl
theorem DE:AL prog 59 2=some 4:=by kernel_rfl
theorem SF:AL prog 61 0=some 0:=by kernel_rfl
theorem Lv:AL prog 61 1=some 1:=by kernel_rfl
theorem Ln:AL prog 61 2=some 2:=by kernel_rfl
theorem LR:AL prog 61 3=some 3:=by kernel_rfl
theorem Lq:AL prog 61 4=some 4:=by kernel_rfl
theorem Fh:AL prog 65 0=some 0:=by kernel_rfl
theorem GS:AL prog 65 1=some 1:=by kernel_rfl
theorem Er:AL prog 65 2=some 2:=by kernel_rfl
theorem Bb:AL prog 92 0=some 0:=by kernel_rfl
theorem Be:AL prog 92 1=some 1:=by kernel_rfl
theorem FK:AL prog 94 0=some 0:=by kernel_rfl
theorem Dh:AL prog 94 1=some 1:=by kernel_rfl
theorem ZC:PR prog 143 4=some (141,4):=by kernel_rfl
theorem dN:PR prog 143 5=some (141,5):=by kernel_rfl
theorem ZY:AZ prog 10=true:=by kernel_rfl
theorem wI:AZ prog 100=true:=by kernel_rfl
theorem vD:AZ prog 101=true:=by kernel_rfl
theorem rS:AZ prog 102=true:=by kernel_rfl
theorem vF:AZ prog 103=true:=by kernel_rfl
theorem sR:AZ prog 104=true:=by kernel_rfl
theorem uA:AZ prog 105=true:=by kernel_rfl
theorem tH:AZ prog 106=true:=by kernel_rfl
theorem tL:AZ prog 107=true:=by kernel_rfl
theorem uH:AZ prog 108=true:=by kernel_rfl
theorem qS:AZ prog 109=true:=by kernel_rfl
theorem IY:AZ prog 11=true:=by kernel_rfl
theorem JJ:AZ prog 110=true:=by kernel_rfl
theorem vY:AZ prog 111=true:=by kernel_rfl
theorem vI:AZ prog 112=true:=by kernel_rfl
theorem Rl:AZ prog 113=true:=by kernel_rfl
theorem qD:AZ prog 114=true:=by kernel_rfl
theorem uT:AZ prog 115=true:=by kernel_rfl
theorem uW:AZ prog 116=true:=by kernel_rfl
theorem sG:AZ prog 117=true:=by kernel_rfl
theorem Qw:AZ prog 118=true:=by kernel_rfl
theorem Ra:AZ prog 119=true:=by kernel_rfl
theorem Wo:AZ prog 12=true:=by kernel_rfl
theorem qC:AZ prog 120=true:=by kernel_rfl
theorem sK:AZ prog 121=true:=by kernel_rfl
theorem vB:AZ prog 122=true:=by kernel_rfl
theorem qR:AZ prog 123=true:=by kernel_rfl
theorem Rz:AZ prog 124=true:=by kernel_rfl
theorem rL:AZ prog 125=true:=by kernel_rfl
theorem Vp:AZ prog 126=true:=by kernel_rfl
theorem eI:AZ prog 127=true:=by kernel_rfl
theorem uG:AZ prog 128=true:=by kernel_rfl
theorem Nm:AZ prog 129=true:=by kernel_rfl
theorem WA:AZ prog 13=true:=by kernel_rfl
theorem eN:AZ prog 130=true:=by kernel_rfl
theorem pZ:AZ prog 131=true:=by kernel_rfl
theorem wP:AZ prog 132=true:=by kernel_rfl
theorem ZM:AZ prog 133=true:=by kernel_rfl
theorem Yk:AZ prog 134=true:=by kernel_rfl
theorem rW:AZ prog 135=true:=by kernel_rfl
theorem Ml:AZ prog 136=true:=by kernel_rfl
theorem vM:AZ prog 137=true:=by kernel_rfl
theorem Zf:AZ prog 138=true:=by kernel_rfl
theorem rV:AZ prog 139=true:=by kernel_rfl
theorem nS:AZ prog 14=true:=by kernel_rfl
theorem gG:AZ prog 140=true:=by kernel_rfl
theorem uY:AZ prog 141=true:=by kernel_rfl
theorem pM:AZ prog 142=true:=by kernel_rfl
theorem Vh:AZ prog 143=true:=by kernel_rfl
theorem wV:AZ prog 144=true:=by kernel_rfl
theorem rZ:AZ prog 145=true:=by kernel_rfl
theorem vO:AZ prog 146=true:=by kernel_rfl
theorem qL:AZ prog 147=true:=by kernel_rfl
theorem VD:AZ prog 148=true:=by kernel_rfl
theorem fG:AZ prog 149=true:=by kernel_rfl
theorem ZH:AZ prog 15=true:=by kernel_rfl
theorem Ri:AZ prog 150=true:=by kernel_rfl
theorem sV:AZ prog 151=true:=by kernel_rfl
theorem wQ:AZ prog 152=true:=by kernel_rfl
theorem vA:AZ prog 153=true:=by kernel_rfl
theorem Ox:AZ prog 154=true:=by kernel_rfl
theorem tW:AZ prog 155=true:=by kernel_rfl
theorem tM:AZ prog 156=true:=by kernel_rfl
theorem vQ:AZ prog 157=true:=by kernel_rfl
theorem tO:AZ prog 158=true:=by kernel_rfl
theorem qY:AZ prog 159=true:=by kernel_rfl
theorem AcS:AZ prog 16=true:=by kernel_rfl
theorem qH:AZ prog 160=true:=by kernel_rfl
theorem VK:AZ prog 161=true:=by kernel_rfl
theorem ZB:AZ prog 162=true:=by kernel_rfl
theorem dD:AZ prog 163=true:=by kernel_rfl
theorem uJ:AZ prog 164=true:=by kernel_rfl
theorem gH:AZ prog 165=true:=by kernel_rfl
theorem PK:AZ prog 166=true:=by kernel_rfl
theorem gP:AZ prog 167=true:=by kernel_rfl
theorem qB:AZ prog 168=true:=by kernel_rfl
theorem rA:AZ prog 169=true:=by kernel_rfl
theorem MG:AZ prog 17=true:=by kernel_rfl
theorem qA:AZ prog 170=true:=by kernel_rfl
theorem rX:AZ prog 171=true:=by kernel_rfl
theorem tB:AZ prog 172=true:=by kernel_rfl
theorem sX:AZ prog 173=true:=by kernel_rfl
theorem cK:AZ prog 174=true:=by kernel_rfl
theorem sP:AZ prog 175=true:=by kernel_rfl
theorem rR:AZ prog 176=true:=by kernel_rfl
theorem Ey:AZ prog 177=true:=by kernel_rfl
theorem sQ:AZ prog 178=true:=by kernel_rfl
theorem uM:AZ prog 179=true:=by kernel_rfl
theorem zA:AZ prog 18=true:=by kernel_rfl
theorem sW:AZ prog 180=true:=by kernel_rfl
theorem qW:AZ prog 181=true:=by kernel_rfl
theorem vP:AZ prog 182=true:=by kernel_rfl
theorem qO:AZ prog 183=true:=by kernel_rfl
theorem tV:AZ prog 184=true:=by kernel_rfl
theorem vS:AZ prog 185=true:=by kernel_rfl
theorem bE:AZ prog 186=true:=by kernel_rfl
theorem fD:AZ prog 187=true:=by kernel_rfl
theorem sU:AZ prog 188=true:=by kernel_rfl
theorem wC:AZ prog 189=true:=by kernel_rfl
theorem AcY:AZ prog 19=true:=by kernel_rfl
theorem Rp:AZ prog 190=true:=by kernel_rfl
theorem Ue:AZ prog 191=true:=by kernel_rfl
theorem Kb:AZ prog 192=true:=by kernel_rfl
theorem uR:AZ prog 193=true:=by kernel_rfl
theorem pX:AZ prog 194=true:=by kernel_rfl
theorem eC:AZ prog 195=true:=by kernel_rfl
theorem qT:AZ prog 196=true:=by kernel_rfl
theorem rH:AZ prog 197=true:=by kernel_rfl
theorem tQ:AZ prog 198=true:=by kernel_rfl
theorem eJ:AZ prog 199=true:=by kernel_rfl
theorem zO:AZ prog 20=true:=by kernel_rfl
theorem gY:AZ prog 200=true:=by kernel_rfl
theorem dW:AZ prog 201=true:=by kernel_rfl
theorem tK:AZ prog 202=true:=by kernel_rfl
theorem sN:AZ prog 203=true:=by kernel_rfl
theorem rT:AZ prog 204=true:=by kernel_rfl
theorem tD:AZ prog 205=true:=by kernel_rfl
theorem PG:AZ prog 206=true:=by kernel_rfl
theorem tI:AZ prog 207=true:=by kernel_rfl
theorem rN:AZ prog 208=true:=by kernel_rfl
theorem pS:AZ prog 209=true:=by kernel_rfl
theorem MJ:AZ prog 21=true:=by kernel_rfl
theorem rP:AZ prog 210=true:=by kernel_rfl
theorem aS:AZ prog 219=true:=by kernel_rfl
theorem xM:AZ prog 22=true:=by kernel_rfl
theorem Yo:AZ prog 220=true:=by kernel_rfl
theorem Zw:AZ prog 221=true:=by kernel_rfl
theorem RW:AZ prog 222=true:=by kernel_rfl
theorem aX:AZ prog 223=true:=by kernel_rfl
theorem bS:AZ prog 224=true:=by kernel_rfl
theorem uX:AZ prog 225=true:=by kernel_rfl
theorem wR:AZ prog 226=true:=by kernel_rfl
theorem sZ:AZ prog 227=true:=by kernel_rfl
theorem fK:AZ prog 228=true:=by kernel_rfl
theorem uF:AZ prog 229=true:=by kernel_rfl
theorem AbZ:AZ prog 23=true:=by kernel_rfl
theorem sS:AZ prog 230=true:=by kernel_rfl
theorem sH:AZ prog 231=true:=by kernel_rfl
theorem sD:AZ prog 232=true:=by kernel_rfl
theorem uC:AZ prog 233=true:=by kernel_rfl
theorem gJ:AZ prog 234=true:=by kernel_rfl
theorem sM:AZ prog 235=true:=by kernel_rfl
theorem rY:AZ prog 236=true:=by kernel_rfl
theorem vX:AZ prog 237=true:=by kernel_rfl
theorem vN:AZ prog 238=true:=by kernel_rfl
theorem xL:AZ prog 24=true:=by kernel_rfl
theorem ZX:AZ prog 244=true:=by kernel_rfl
theorem uL:AZ prog 245=true:=by kernel_rfl
theorem fT:AZ prog 246=true:=by kernel_rfl
theorem qX:AZ prog 247=true:=by kernel_rfl
theorem IE:AZ prog 248=true:=by kernel_rfl
theorem vK:AZ prog 249=true:=by kernel_rfl
theorem nY:AZ prog 25=true:=by kernel_rfl
theorem eE:AZ prog 250=true:=by kernel_rfl
theorem rQ:AZ prog 251=true:=by kernel_rfl
theorem Yu:AZ prog 252=true:=by kernel_rfl
theorem wD:AZ prog 253=true:=by kernel_rfl
theorem VO:AZ prog 254=true:=by kernel_rfl
theorem Nv:AZ prog 255=true:=by kernel_rfl
theorem wF:AZ prog 256=true:=by kernel_rfl
theorem AcF:AZ prog 26=true:=by kernel_rfl
theorem rC:AZ prog 260=true:=by kernel_rfl
theorem rB:AZ prog 261=true:=by kernel_rfl
theorem vU:AZ prog 262=true:=by kernel_rfl
theorem qN:AZ prog 263=true:=by kernel_rfl
theorem Um:AZ prog 264=true:=by kernel_rfl
theorem wG:AZ prog 265=true:=by kernel_rfl
theorem fS:AZ prog 266=true:=by kernel_rfl
theorem dR:AZ prog 267=true:=by kernel_rfl
theorem qK:AZ prog 268=true:=by kernel_rfl
theorem zL:AZ prog 27=true:=by kernel_rfl
theorem vV:AZ prog 272=true:=by kernel_rfl
theorem Zc:AZ prog 273=true:=by kernel_rfl
theorem rK:AZ prog 274=true:=by kernel_rfl
theorem tJ:AZ prog 275=true:=by kernel_rfl
theorem pV:AZ prog 276=true:=by kernel_rfl
theorem rJ:AZ prog 277=true:=by kernel_rfl
theorem wW:AZ prog 278=true:=by kernel_rfl
theorem vH:AZ prog 279=true:=by kernel_rfl
theorem AcD:AZ prog 28=true:=by kernel_rfl
theorem uO:AZ prog 280=true:=by kernel_rfl
theorem cU:AZ prog 281=true:=by kernel_rfl
theorem dX:AZ prog 282=true:=by kernel_rfl
theorem vT:AZ prog 283=true:=by kernel_rfl
theorem eW:AZ prog 284=true:=by kernel_rfl
theorem yM:AZ prog 29=true:=by kernel_rfl
theorem nQ:AZ prog 30=true:=by kernel_rfl
theorem AcI:AZ prog 31=true:=by kernel_rfl
theorem Yh:AZ prog 32=true:=by kernel_rfl
theorem oX:AZ prog 33=true:=by kernel_rfl
theorem TN:AZ prog 34=true:=by kernel_rfl
theorem xR:AZ prog 35=true:=by kernel_rfl
theorem nP:AZ prog 36=true:=by kernel_rfl
theorem AdF:AZ prog 37=true:=by kernel_rfl
theorem AbG:AZ prog 38=true:=by kernel_rfl
theorem AcW:AZ prog 39=true:=by kernel_rfl
theorem AkA:AZ prog 4=true:=by kernel_rfl
theorem AcC:AZ prog 40=true:=by kernel_rfl
theorem pK:AZ prog 41=true:=by kernel_rfl
theorem zC:AZ prog 42=true:=by kernel_rfl
theorem xN:AZ prog 43=true:=by kernel_rfl
theorem yO:AZ prog 44=true:=by kernel_rfl
theorem pG:AZ prog 45=true:=by kernel_rfl
theorem ZF:AZ prog 46=true:=by kernel_rfl
theorem AcZ:AZ prog 47=true:=by kernel_rfl
theorem AbT:AZ prog 48=true:=by kernel_rfl
theorem yL:AZ prog 49=true:=by kernel_rfl
theorem AiB:AZ prog 5=true:=by kernel_rfl
theorem zJ:AZ prog 50=true:=by kernel_rfl
theorem AcB:AZ prog 51=true:=by kernel_rfl
theorem yH:AZ prog 52=true:=by kernel_rfl
theorem zF:AZ prog 53=true:=by kernel_rfl
theorem oQ:AZ prog 54=true:=by kernel_rfl
theorem dM:AZ prog 55=true:=by kernel_rfl
theorem yJ:AZ prog 56=true:=by kernel_rfl
theorem AbQ:AZ prog 57=true:=by kernel_rfl
theorem yN:AZ prog 58=true:=by kernel_rfl
theorem AcQ:AZ prog 59=true:=by kernel_rfl
theorem AdQ:AZ prog 6=true:=by kernel_rfl
theorem AbN:AZ prog 60=true:=by kernel_rfl
theorem xZ:AZ prog 61=true:=by kernel_rfl
theorem AdH:AZ prog 62=true:=by kernel_rfl
theorem oI:AZ prog 63=true:=by kernel_rfl
theorem xP:AZ prog 64=true:=by kernel_rfl
theorem AcO:AZ prog 65=true:=by kernel_rfl
theorem pD:AZ prog 66=true:=by kernel_rfl
theorem AbW:AZ prog 67=true:=by kernel_rfl
theorem AbB:AZ prog 68=true:=by kernel_rfl
theorem AbC:AZ prog 69=true:=by kernel_rfl
theorem AjA:AZ prog 7=true:=by kernel_rfl
theorem pC:AZ prog 70=true:=by kernel_rfl
theorem AaE:AZ prog 71=true:=by kernel_rfl
theorem cY:AZ prog 72=true:=by kernel_rfl
theorem SZ:AZ prog 73=true:=by kernel_rfl
theorem zU:AZ prog 74=true:=by kernel_rfl
theorem Pb:AZ prog 75=true:=by kernel_rfl
theorem AbK:AZ prog 76=true:=by kernel_rfl
theorem Ed:AZ prog 77=true:=by kernel_rfl
theorem AbU:AZ prog 78=true:=by kernel_rfl
theorem AaC:AZ prog 79=true:=by kernel_rfl
theorem AhG:AZ prog 8=true:=by kernel_rfl
theorem AcG:AZ prog 80=true:=by kernel_rfl
theorem zK:AZ prog 81=true:=by kernel_rfl
theorem yZ:AZ prog 82=true:=by kernel_rfl
theorem oY:AZ prog 83=true:=by kernel_rfl
theorem AdD:AZ prog 84=true:=by kernel_rfl
theorem AbI:AZ prog 85=true:=by kernel_rfl
theorem zN:AZ prog 86=true:=by kernel_rfl
theorem zX:AZ prog 87=true:=by kernel_rfl
theorem AlX:AZ prog 88=true:=by kernel_rfl
theorem AaX:AZ prog 89=true:=by kernel_rfl
theorem nB:AZ prog 9=true:=by kernel_rfl
theorem AaP:AZ prog 90=true:=by kernel_rfl
theorem AcV:AZ prog 91=true:=by kernel_rfl
theorem zB:AZ prog 92=true:=by kernel_rfl
theorem UF:AZ prog 93=true:=by kernel_rfl
theorem AaF:AZ prog 94=true:=by kernel_rfl
theorem yI:AZ prog 95=true:=by kernel_rfl
theorem oW:AZ prog 96=true:=by kernel_rfl
theorem oF:AZ prog 97=true:=by kernel_rfl
theorem AcP:AZ prog 98=true:=by kernel_rfl
theorem zM:AZ prog 99=true:=by kernel_rfl
theorem qI:DN prog 138=some ([.string ByteArray.empty, .i 0, .slice none 0 0, .slice none 0 0, .slice none 0 0, .i 0, .i 0],7,112):=by kernel_rfl
theorem rD:DN prog 140=some ([.string ByteArray.empty, .i 0, .slice none 0 0],3,48):=by kernel_rfl
theorem wX:DN prog 143=some ([.i 0, .i 0, .i 0, .i 0, .slice none 0 0, .slice none 0 0],6,80):=by kernel_rfl
theorem KM:DN prog 153=some ([.i 0, .i 0, .i 0, .i 0],4,32):=by kernel_rfl
theorem vZ:DN prog 161=some ([.slice none 0 0, .slice none 0 0, .slice none 0 0, .slice none 0 0],4,96):=by kernel_rfl
theorem Dx:DN prog 2=some ([.i 0],1,8):=by kernel_rfl
theorem Pg:DN prog 205=some ([.i 0, .i 0, .i 0, .bool false],4,32):=by kernel_rfl
theorem uU:DN prog 206=some ([.string ByteArray.empty, .i 0, .i 0],3,32):=by kernel_rfl
theorem RF:DN prog 215=some ([.i 0, .i 0, .i 0, .bool false],4,32):=by kernel_rfl
theorem vJ:DN prog 253=some ([.slice none 0 0, .slice none 0 0, .slice none 0 0],3,72):=by kernel_rfl
theorem PN:DN prog 269=some ([.i 0, .i 0],2,16):=by kernel_rfl
theorem qJ:DN prog 279=some ([.string ByteArray.empty, .i 0, .i 0, .bool false],4,40):=by kernel_rfl
theorem zZ:DN prog 3=some ([.i 0],1,8):=by kernel_rfl
theorem bI:DN prog 326=some ([.i 0, .i 0],2,16):=by kernel_rfl
theorem aK:DN prog 35=some ([.slice none 0 0],1,24):=by kernel_rfl
theorem SC:DN prog 4=some ([.bool false],1,1):=by kernel_rfl
theorem AhR:DN prog 5=some ([.int .u8 0],1,1):=by kernel_rfl
theorem MP:DN prog 9=some ([.string ByteArray.empty],1,16):=by kernel_rfl
theorem fL:DN prog 92=some ([.i 0, .i 0],2,16):=by kernel_rfl
theorem AcX:DN prog 94=some ([.i 0, .i 0, .i 0],3,24):=by kernel_rfl
theorem Vy:∀(a0:Int) (a1:Int),mH prog 92 [.i a0, .i a1]=true:=by intros;kernel_rfl
theorem Ut:Ep prog 153=some [(0,1),(1,1),(2,1),(3,1)]:=by kernel_rfl
theorem sE:Ep prog 176=some [(0,1),(1,1)]:=by kernel_rfl
theorem ZP:Ep prog 205=some [(0,1),(1,1),(2,1),(3,1)]:=by kernel_rfl
theorem ZT:Ep prog 215=some [(0,1),(1,1),(2,1),(3,1)]:=by kernel_rfl
theorem wU:Ep prog 219=some [(0,5),(5,1),(6,1),(7,1),(8,1),(9,1)]:=by kernel_rfl
theorem Gy:Ep prog 269=some [(0,1),(1,1)]:=by kernel_rfl
theorem Ur:Ep prog 326=some [(0,1),(1,1)]:=by kernel_rfl
theorem OO:Ep prog 47=some [(0,1),(1,1)]:=by kernel_rfl
theorem Ga:Ep prog 92=some [(0,1),(1,1)]:=by kernel_rfl
theorem OR:Ep prog 94=some [(0,1),(1,2)]:=by kernel_rfl
theorem Ux:De prog 138=some [.string ByteArray.empty, .i 0, .slice none 0 0, .slice none 0 0, .slice none 0 0, .i 0, .i 0]:=by kernel_rfl
theorem LA:De prog 140=some [.string ByteArray.empty, .i 0, .slice none 0 0]:=by kernel_rfl
theorem JC:De prog 143=some [.i 0, .i 0, .i 0, .i 0, .slice none 0 0, .slice none 0 0]:=by kernel_rfl
theorem JH:De prog 153=some [.i 0, .i 0, .i 0, .i 0]:=by kernel_rfl
theorem Mz:De prog 161=some [.slice none 0 0, .slice none 0 0, .slice none 0 0, .slice none 0 0]:=by kernel_rfl
theorem rU:De prog 176=some [.pointer none, .slice none 0 0]:=by kernel_rfl
theorem VZ:De prog 205=some [.i 0, .i 0, .i 0, .bool false]:=by kernel_rfl
theorem PS:De prog 206=some [.string ByteArray.empty, .i 0, .i 0]:=by kernel_rfl
theorem Pa:De prog 215=some [.i 0, .i 0, .i 0, .bool false]:=by kernel_rfl
theorem tT:De prog 219=some [.slice none 0 0, .slice none 0 0, .slice none 0 0, .slice none 0 0, .slice none 0 0, .slice none 0 0, .slice none 0 0, .slice none 0 0, .slice none 0 0, .slice none 0 0]:=by kernel_rfl
theorem cQ:De prog 253=some [.slice none 0 0, .slice none 0 0, .slice none 0 0]:=by kernel_rfl
theorem GH:De prog 269=some [.i 0, .i 0]:=by kernel_rfl
theorem Pe:De prog 279=some [.string ByteArray.empty, .i 0, .i 0, .bool false]:=by kernel_rfl
theorem PD:De prog 326=some [.i 0, .i 0]:=by kernel_rfl
theorem AaN:De prog 4=some [.bool false]:=by kernel_rfl
theorem Gi:De prog 47=some [.slice none 0 0, .slice none 0 0]:=by kernel_rfl
theorem oH:De prog 52=some [.slice none 0 0]:=by kernel_rfl
theorem Zd:De prog 56=some [.slice none 0 0, .slice none 0 0, .slice none 0 0]:=by kernel_rfl
theorem gB:De prog 59=some [.slice none 0 0, .slice none 0 0, .slice none 0 0, .slice none 0 0, .slice none 0 0]:=by kernel_rfl
theorem oS:De prog 61=some [.string ByteArray.empty, .i 0, .i 0, .i 0, .i 0]:=by kernel_rfl
theorem aB:De prog 65=some [.slice none 0 0, .slice none 0 0, .slice none 0 0]:=by kernel_rfl
theorem Cu:De prog 92=some [.i 0, .i 0]:=by kernel_rfl
theorem Gg:De prog 94=some [.i 0, .i 0, .i 0]:=by kernel_rfl
def dA(n:Nat)(a0_s:ByteArray)(a1_cutset:ByteArray):Option ByteArray:=if a0_s.size<=9223372036854775807∧a1_cutset.size<4294967281∧(a1_cutset.data.toList.all fun b=>decide (b.toNat<128))=true then some ⟨(Lib.trimS a0_s.data.toList a1_cutset.data.toList).toArray⟩else none
theorem AgS{n:Nat}{a0_s a1_cutset c:ByteArray}{w:World}(a:dA n a0_s a1_cutset=some c):
 Calls prog 179 [.string a0_s, .string a1_cutset].toArray w (DM fun d e=>d= .string c∧AH w e):=by
 unfold dA at a
 split at a
 ·rename_i b
  obtain rfl:=Option.some.inj a
  refine(strings_Trim_ascii a0_s a1_cutset w b.1 b.2.1 (fun g f hb=>of_decide_eq_true (List.all_eq_true.1 b.2.2 f (List.mem_of_getElem? hb)))).mono ?_
  rintro h w' ⟨rfl,hB⟩
  exact⟨_,z,z,hB⟩
 ·cases a
def pN(n:Nat)(a0_s:ByteArray)(a1_c:Int):Option Int:=some (Lib.indexByte a0_s.data.toList a1_c.toNat.toUInt8)
theorem AeG{n:Nat}{a0_s:ByteArray}{a1_c a:Int}{w:World}(b:pN n a0_s a1_c=some a):
 Calls prog 180 [.string a0_s, .int .u8 a1_c].toArray w (DM fun c d=>c= .i a∧AH w d):=by
 obtain rfl:=Option.some.inj b
 refine(strings_IndexByte a0_s a1_c w).mono ?_
 rintro e w' ⟨rfl,rfl⟩
 exact⟨_,z,z,AH.refl _⟩
def Hy(a0:List ByteArray)(a1:ByteArray)(k0:Int->Option Int):Nat->Int->Option Int
 |0,_=>none
 |m+1,a=>cond (decide (a<(a0.length:Int))) ((AE a0 a).bind fun b=>cond (a1.toList==b.toList) (some a) (Hy a0 a1 k0 m (wrap .i64 (a+1)))) (k0 a)
def kO(n:Nat)(a0:List ByteArray)(a1:ByteArray):Option Int:=Hy a0 a1 (fun a=>some (-1)) n 0
theorem AhH{f:List ByteArray}{g:ByteArray}{i:Int}{j:Value}(a:kO n f g=some i)(m:H<=w.heap.size)(k:AS Au w H f j):
 Calls prog 256 [j,.string g].toArray w (An (.i i) w):=by
 have l:=AH.refl w;unfold kO at a;refine AA func256 z ntmps256 (Rc 9 (Yl z (CB z DV (k.oj l)) (Ro 4 ?_)));refine WC.loopD (fun b h wl=>∃c:Int,Kn 19 [(0,j),(1,.string g),(7,.i ((f.length:Int))),(8,.i c)] h∧AH w wl∧Hy f g (fun c=>(some (-1))) b c=some i) n ?_ ?_
 ·intro h d;exact⟨0,d.sub z,AH.refl _,a⟩
 ·rintro b h o ⟨c,d,e,a⟩;refine Bp d ?_;rcases b with _|b;exact Bm a;rw [Hy.eq_2]at a;have p:=e.size;refine Rc 6 (Wf a e ?_);intro a;refine Rc 15 (Il a (k.oj e) DV HV Dy ?_);rintro q a _;refine Ro 3 (Wt a e ?_);intro a;refine Rc 8 ?_;intro h d;exact⟨b,nr,(wrap .i64 (c+1)),d.sub z,e,a⟩
def Zm(n:Nat)(a0:List ByteArray)(a1:ByteArray):Option Bool:=(kO n a0 a1).bind fun a=>some (decide (a>=0))
theorem AfN{b:List ByteArray}{c:ByteArray}{d:Bool}{e:Value}(a:Zm n b c=some d)(j:H<=w.heap.size)(g:AS Au w H b e):
 Calls prog 238 [e,.string c].toArray w (An (.bool d) w):=by
 have f:=AH.refl w;unfold Zm at a;refine AA func238 z ntmps238 (Rc 9 (Cs a f wF (fun _ h=>(AhH h (by omega) (g.oj f):)) ?_));rintro k a l m ⟨i,o⟩;exact Db a i
def Jw(a0:List Int)(k0:Int->Int->Option Int):Nat->Int->Int->Option Int
 |0,_,_=>none
 |m+1,b,a=>cond (decide (a<(a0.length:Int))) ((AE a0 a).bind fun c=>Jw a0 k0 m (min b c) (wrap .i64 (a+1))) (k0 b a)
def YZ(n:Nat)(a0:List Int):Option Int:=cond (decide ((a0.length:Int)<1)) none ((AE a0 0).bind fun c=>Jw a0 (fun a b=>some a) n c 1)
theorem AhW{i:List Int}{j:Int}{k:Value}(a:YZ n i=some j)(p:H<=w.heap.size)(g:AS (AI .i64) w H i k):
 Calls prog 278 [k].toArray w (An (.i j) w):=by
 have l:=AH.refl w;unfold YZ at a;refine AA func278 z ntmps278 (Rc 9 (Yl z (CB z Ac (g.oj l)) (Ro 3 (Wc z a ?_ ?_))))
 ·intro a;cases a
 ·intro a;refine Rc 5 (Il a (g.oj l) Ac Al AK ?_);rintro m a _;refine Ro 10 (WC.loopD (fun c h wl=>∃b d:Int,Kn 25 [(0,k),(3,.i b),(4,.i d)] h∧AH w wl∧Jw i (fun b d=>(some b)) c b d=some j) n ?_ ?_)
  ·intro h e;exact⟨m,1,e.sub z,AH.refl _,a⟩
  ·rintro c h q ⟨b,d,e,f,a⟩;refine Bp e ?_;rcases c with _|c;exact Bm a;rw [Jw.eq_2]at a;have r:=f.size;refine Rc 5 (Yl z (CB z Ac (g.oj f)) (Ro 3 (Wf a f ?_)));intro a;refine Rc 8 (Il a (g.oj f) Ac Al AK ?_);rintro o a _;refine Yl z (Dn z z z) (Ro 10 ?_);intro h e;exact⟨c,nr,(min b o),(wrap .i64 (d+1)),e.sub z,f,a⟩
def lL(n:Nat)(a0:List Int):Option (List Int):=(Du (([]:List Int)) a0 8).bind fun a=>some a
theorem AkG{d b:List Int}{e:Value}(a:lL n d=some b)(s:H<=w.heap.size)(f:AS (AI .i64) w H d e):
 Calls prog 182 [e].toArray w (DM fun o g=>∃h,o=h∧AB (AI .i64) g w.heap.size (Iv 0 0) 2 b h∧AH w g):=by
 have i:=AH.refl w;unfold lL at a;refine AA func182 z ntmps182 (Rc 9 ?_)
 rcases AD.nil_or (f.oj i)with ⟨rfl,hnil⟩|⟨p_,n_,c_,rfl⟩
 ·replace a:(some (([]:List Int)))=some b:=(by simpa [hnil,Du] using a);refine Yl z (SO z Ac z z) (Ro 2 (WC.cond_t z (Rc 7 ?_)));cases BM a;exact Ne z z ⟨_,z,_,z,AB.nil _ _ _ _ _,i⟩
 ·refine Yl z (TM z Ac z z) (Ro 2 (WC.cond_f z (Rc 4 (Ef z (BE (AI .i64) (([]:List Int)) [] z Ac Dx z z trivial) ?_))));rintro t u ⟨v,j,x,y,c,p⟩;have A:=c.size;have k:=BP j;clear j;have⟨B,q,a⟩:=AG a;refine Ro 1 (Ef z (BC (c:=(AI .i64)) z Ac Dx z z z z z p (by omega) (f.oj c) q) ?_);rintro C D ⟨l,m⟩;have⟨r,E⟩:=Ge c m k;have F:=Kr m l k;cases BM a;exact Ro 4 (Ne z z ⟨_,z,_,z,AB.base l,r⟩)
def Ji(a0:List Int)(a1:Int)(k0:Int->Option Int):Nat->Int->Option Int
 |0,_=>none
 |m+1,a=>cond (decide (a<(a0.length:Int))) ((AE a0 a).bind fun b=>cond (a1==b) (some a) (Ji a0 a1 k0 m (wrap .i64 (a+1)))) (k0 a)
def cL(n:Nat)(a0:List Int)(a1:Int):Option Int:=Ji a0 a1 (fun a=>some (-1)) n 0
theorem AgH{f:List Int}{g i:Int}{j:Value}(a:cL n f g=some i)(m:H<=w.heap.size)(k:AS (AI .i64) w H f j):
 Calls prog 142 [j,.i g].toArray w (An (.i i) w):=by
 have l:=AH.refl w;unfold cL at a;refine AA func142 z ntmps142 (Rc 9 (Yl z (CB z HD (k.oj l)) (Ro 4 ?_)));refine WC.loopD (fun b h wl=>∃c:Int,Kn 19 [(0,j),(1,.i g),(7,.i ((f.length:Int))),(8,.i c)] h∧AH w wl∧Ji f g (fun c=>(some (-1))) b c=some i) n ?_ ?_
 ·intro h d;exact⟨0,d.sub z,AH.refl _,a⟩
 ·rintro b h o ⟨c,d,e,a⟩;refine Bp d ?_;rcases b with _|b;exact Bm a;rw [Ji.eq_2]at a;have p:=e.size;refine Rc 6 (Wf a e ?_);intro a;refine Rc 15 (Il a (k.oj e) HD MC TE ?_);rintro q a _;refine Ro 3 (Wt a e ?_);intro a;refine Rc 8 ?_;intro h d;exact⟨b,nr,(wrap .i64 (c+1)),d.sub z,e,a⟩
theorem AdW{b:Value}:Calls prog 94 [b].toArray w (DM fun d c=>∃a,d= .func (.func 145) #[] #[.p a]∧Ms w c a b.cells.toList 35):=by
 refine AA func94 z ntmps94 ?_
 refine Rc 2 (Ef z (AF z z) ?_)
 rintro _ c ⟨a,rfl,e⟩
 refine Ro 5 (Yl z (Dr z z z) (Ro 4 ?_))
 exact NX.end (rs:=[.tmp 2]) (vs:=[.func (.func 145) #[] #[.p a]]) z ⟨z,trivial⟩ ⟨_,z,a,z,e⟩
def aR(n:Nat)(a0:Int):Option Bool:=some ((a0 !=a0))
theorem AaW{a:Int}{b:Bool}(c:aR n a=some b):
 Calls prog 281 [.i a].toArray w (An (.bool b) w):=by
 have d:=AH.refl w;unfold aR at c;exact AA func281 z ntmps281 (Iw c d)
def nF(n:Nat)(a0:Int)(a1:Int):Option Bool:=(aR n a0).bind fun b=>(cond b ((aR n a1).bind fun a=>some (!a)) (some false)).bind fun c=>some ((c||(decide (a0<a1))))
theorem AdX{b c:Int}{d:Bool}(a:nF n b c=some d):
 Calls prog 272 [.i b,.i c].toArray w (An (.bool d) w):=by
 have f:=AH.refl w;unfold nF at a;refine AA func272 z ntmps272 (Rc 8 (Cs a f cU (fun _=>AaW) ?_));rintro j a k l ⟨e,m⟩;refine Ro 1 (Fy 4 [0,1] 11 7 a ?_ ?_)
 ·intro g a;refine Ro 1 (Cs a e cU (fun _=>AaW) ?_);rintro o a p h ⟨q,r⟩;cases BM a;exact Ro 1 (Ro 1 (EE h))
 intro g a;intro s H;have⟨i,t⟩:=Et e H;refine Ro 1 (uQ 4 [] 16 12 ?_);exact Db a i
def Uq(n:Nat)(a0:Int):Option Bool:=some ((a0 !=a0))
theorem AaL{a:Int}{b:Bool}(c:Uq n a=some b):
 Calls prog 273 [.i a].toArray w (An (.bool b) w):=by
 have d:=AH.refl w;unfold Uq at c;exact AA func273 z ntmps273 (Iw c d)
def Jm(n:Nat)(a0:List Int)(a1:Int)(k0:Int->Int->Option (Int×Bool)):Nat->Int->Int->Option (Int×Bool)
 |0,_,_=>none
 |m+1,a,b=>cond (decide (a<b)) ((AE a0 (wrap .i64 (Sr .u64 (IntKind.wrap IntKind.u64 (wrap .i64 (a+b))) 1))).bind fun d=>(nF n d a1).bind fun c=>cond c (Jm n a0 a1 k0 m (wrap .i64 ((wrap .i64 (Sr .u64 (IntKind.wrap IntKind.u64 (wrap .i64 (a+b))) 1))+1)) b) (Jm n a0 a1 k0 m a (wrap .i64 (Sr .u64 (IntKind.wrap IntKind.u64 (wrap .i64 (a+b))) 1)))) (k0 a b)
def XF(n:Nat)(a0:List Int)(a1:Int):Option (Int×Bool):=Jm n a0 a1 (fun a i=>(cond (decide (a<(a0.length:Int))) ((AE a0 a).bind fun g=>(cond (g==a1) (some true) ((AE a0 a).bind fun c=>(Uq n c).bind fun e=>(cond e ((Uq n a1).bind fun b=>some b) (some false)).bind fun f=>some f)).bind fun d=>some d) (some false)).bind fun h=>some (a,h)) n 0 ((a0.length:Int))
theorem AgT{f:List Int}{g:Int}{h:Int×Bool}{j:Value}(hF:XF n f g=some h)(hH:H<=w.heap.size)(i:AS (AI .i64) w H f j):
 Calls prog 260 [j,.i g].toArray w (DM fun p q=>p= .tuple #[.i h.1,.bool h.2]∧AH w q):=by
 have r:=AH.refl w;unfold XF at hF;refine AA func260 z ntmps260 (Rc 9 (Yl z (CB z Ac (i.oj r)) (Ro 12 ?_)));have⟨s,t,hF⟩:=KF hF;refine WC.loopD (fun b c wl=>∃d e:Int,Kn 54 [(0,j),(1,.i g),(6,.i ((f.length:Int))),(7,.i d),(8,.i e)] c∧AH w wl∧Jm n f g s b d e=some h) n ?_ ?_
 ·intro c hK;exact⟨0,((f.length:Int)),hK.sub z,AH.refl _,hF⟩
 ·rintro b c E ⟨d,e,hK,a,hF⟩;refine Bp hK ?_;rcases b with _|b;exact Bm hF;rw [Jm.eq_2]at hF;have F:=a.size;refine Rc 8 (Wc z hF ?_ ?_)
  ·intro hF;refine Rc 8 (Yl z (NN z ud3 aI z) (Yl z (kZ z z z (by decide)) (Yl z (NN z aI ud3 z) (Ro 7 (Il hF (i.oj a) Ac Al AK ?_)))));rintro G hF _;refine Ro 1 (Cs hF a vV (fun _=>AdX) ?_);rintro I hF J k ⟨K,L⟩;refine Ro 2 (Wc z hF ?_ ?_)
   ·intro hF;refine Rc 7 ?_;intro c hK;exact⟨b,nr,(wrap .i64 ((wrap .i64 (Sr .u64 (IntKind.wrap IntKind.u64 (wrap .i64 (d+e))) 1))+1)),e,hK.sub z,(AH.trans a k),hF⟩
   ·intro hF;refine Rc 6 ?_;intro c hK;exact⟨b,nr,d,(wrap .i64 (Sr .u64 (IntKind.wrap IntKind.u64 (wrap .i64 (d+e))) 1)),hK.sub z,(AH.trans a k),hF⟩
  ·intro hF;refine Rc 3 ?_
   subst t
   refine Re 9 (Fy 18 [31] 53 35 hF ?_ ?_)
   ·intro u hF;refine Ro 2 (Il hF (i.oj a) Ac Al AK ?_);rintro M hF _;refine Ro 3 (Nk 10 [31,35] 52 42 hF ?_ ?_)
    ·intro v hF;refine Ro 2 (Il hF (i.oj a) Ac Al AK ?_);rintro N hF _;refine Cs hF a Zc (fun _=>AaL) ?_;rintro O hF P x ⟨l,Q⟩;refine Ro 1 (Fy 3 [31,35,42] 51 48 hF ?_ ?_)
     ·intro y hF;refine Ro 1 (Cs hF l Zc (fun _=>AaL) ?_);rintro R hF S A ⟨T,U⟩;cases BM hF;exact Ro 1 (EE A)
     intro y hF;intro V m;have⟨W,X⟩:=Et l m;cases BM hF;exact Ro 1 (TL.nil fun c B=>⟨B.sub z,(AH.trans x m)⟩)
    intro v hF;intro Y o;have⟨Z,a0⟩:=Et a o;cases BM hF;exact Ro 1 (EE o)
   intro u hF;intro b0 C;have⟨D,c0⟩:=Et a C;exact Db hF D
end Go.Proofs.YtaijnchdfgojiabGreatDoor
