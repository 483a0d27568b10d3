/- The walks: every function that FnNeedsFixed reaches computes the plain function that is typed beside it; no condition. -/
import Derived.Test.YtpnjglnpdmgghaaGreatDoorProg
import Derived.Test.YtpnjglnpdmgghaaGreatDoorDat
import Derived.Test.YtpnjglnpdmgghaaGreatDoorShelf
set_option linter.all false
set_option maxRecDepth 20000
set_option maxHeartbeats 40000000
namespace Go.Proofs.YtpnjglnpdmgghaaGreatDoor
open Go Go.RowKit Go.Eng Go.Proofs.Tryz
open Go.IntKind (wrap)
variable {n H:Nat} {w:World}
abbrev yF:=@underlying2
abbrev ud3:=@underlying3
abbrev zG:=@underlying4
abbrev mB:=@underlying5
abbrev ZQ:=@underlying9
abbrev Rw:=@underlying22
abbrev Mq:=@underlying24
abbrev Ik:=@underlying27
abbrev Fm:=@underlying28
abbrev Jp:=@underlying29
abbrev Iw:=@underlying32
abbrev BF:=@underlying37
abbrev FX:=@underlying38
abbrev HT:=@underlying39
abbrev Kg:=@underlying42
abbrev HY:=@underlying68
abbrev xH:=@underlying78
abbrev Lx:=@underlying85
abbrev Gy:=@underlying105
abbrev Gl:=@underlying106
abbrev Ng:=@underlying111
abbrev Hc:=@underlying120
abbrev LD:=@underlying128
abbrev Lf:=@underlying135
abbrev KF:=@underlying163
abbrev TW:=@underlying179
abbrev mR:=@underlying181
abbrev Xs:=@underlying245
abbrev UG:=@underlying246
theorem Tryz.hm:Tryz.prog.follows .mixedOrders=true:=by kernel_rfl
theorem Hu:Ei prog 105=some false:=by kernel_rfl
theorem IM:Ei prog 106=some false:=by kernel_rfl
theorem Ej:Ei prog 108=some true:=by kernel_rfl
theorem MT:Ei prog 110=some true:=by kernel_rfl
theorem JK:Ei prog 111=some false:=by kernel_rfl
theorem In:Ei prog 113=some true:=by kernel_rfl
theorem Fo:Ei prog 123=some true:=by kernel_rfl
theorem UV:Ei prog 128=some false:=by kernel_rfl
theorem Ue:Ei prog 131=some true:=by kernel_rfl
theorem Kh:Ei prog 133=some true:=by kernel_rfl
theorem Wz:Ei prog 135=some false:=by kernel_rfl
theorem eK:Ei prog 158=some true:=by kernel_rfl
theorem Wd:Ei prog 171=some true:=by kernel_rfl
theorem pM:Ei prog 181=some true:=by kernel_rfl
theorem Xa:Ei prog 194=some true:=by kernel_rfl
theorem Aq:Ei prog 2=some false:=by kernel_rfl
theorem Lq:Ei prog 205=some true:=by kernel_rfl
theorem Um:Ei prog 215=some true:=by kernel_rfl
theorem mC:Ei prog 22=some false:=by kernel_rfl
theorem Jo:Ei prog 24=some false:=by kernel_rfl
theorem dO:Ei prog 250=some true:=by kernel_rfl
theorem OG:Ei prog 26=some true:=by kernel_rfl
theorem JM:Ei prog 27=some false:=by kernel_rfl
theorem MF:Ei prog 28=some false:=by kernel_rfl
theorem Jm:Ei prog 29=some false:=by kernel_rfl
theorem TN:Ei prog 3=some false:=by kernel_rfl
theorem GM:Ei prog 31=some true:=by kernel_rfl
theorem Hj:Ei prog 32=some false:=by kernel_rfl
theorem Cq:Ei prog 34=some true:=by kernel_rfl
theorem Eb:Ei prog 36=some true:=by kernel_rfl
theorem CH:Ei prog 37=some false:=by kernel_rfl
theorem Hb:Ei prog 38=some false:=by kernel_rfl
theorem Fz:Ei prog 39=some false:=by kernel_rfl
theorem GZ:Ei prog 4=some false:=by kernel_rfl
theorem GA:Ei prog 41=some true:=by kernel_rfl
theorem uC:Ei prog 42=some false:=by kernel_rfl
theorem JI:Ei prog 46=some true:=by kernel_rfl
theorem uP:Ei prog 5=some false:=by kernel_rfl
theorem EL:Ei prog 53=some true:=by kernel_rfl
theorem KE:Ei prog 55=some true:=by kernel_rfl
theorem cS:Ei prog 61=some false:=by kernel_rfl
theorem Nj:Ei prog 68=some false:=by kernel_rfl
theorem PZ:Ei prog 75=some false:=by kernel_rfl
theorem KB:Ei prog 9=some false:=by kernel_rfl
theorem aQ:Cp prog 105=some 1:=by kernel_rfl
theorem Wl:Cp prog 106=some 1:=by kernel_rfl
theorem DH:Cp prog 108=some 7:=by kernel_rfl
theorem FK:Cp prog 110=some 3:=by kernel_rfl
theorem EN:Cp prog 113=some 6:=by kernel_rfl
theorem Da:Cp prog 123=some 4:=by kernel_rfl
theorem JS:Cp prog 131=some 4:=by kernel_rfl
theorem EY:Cp prog 133=some 4:=by kernel_rfl
theorem rU:Cp prog 135=some 1:=by kernel_rfl
theorem Hv:Cp prog 158=some 4:=by kernel_rfl
theorem IE:Cp prog 171=some 3:=by kernel_rfl
theorem Wq:Cp prog 181=some 2:=by kernel_rfl
theorem Gz:Cp prog 194=some 5:=by kernel_rfl
theorem CD:Cp prog 2=some 1:=by kernel_rfl
theorem Ht:Cp prog 205=some 3:=by kernel_rfl
theorem Hh:Cp prog 215=some 4:=by kernel_rfl
theorem tE:Cp prog 24=some 1:=by kernel_rfl
theorem RW:Cp prog 250=some 2:=by kernel_rfl
theorem Ld:Cp prog 26=some 1:=by kernel_rfl
theorem xN:Cp prog 29=some 1:=by kernel_rfl
theorem Og:Cp prog 3=some 1:=by kernel_rfl
theorem Fb:Cp prog 31=some 3:=by kernel_rfl
theorem vN:Cp prog 32=some 1:=by kernel_rfl
theorem CS:Cp prog 34=some 5:=by kernel_rfl
theorem Dj:Cp prog 36=some 5:=by kernel_rfl
theorem MG:Cp prog 37=some 1:=by kernel_rfl
theorem wQ:Cp prog 39=some 1:=by kernel_rfl
theorem Fv:Cp prog 4=some 1:=by kernel_rfl
theorem EG:Cp prog 41=some 3:=by kernel_rfl
theorem GV:Cp prog 46=some 2:=by kernel_rfl
theorem uO:Cp prog 5=some 1:=by kernel_rfl
theorem CF:Cp prog 53=some 2:=by kernel_rfl
theorem Ee:Cp prog 55=some 3:=by kernel_rfl
theorem mT:Cp prog 68=some 1:=by kernel_rfl
theorem Rz:Cp prog 9=some 1:=by kernel_rfl
theorem Sx:jY prog 53 2=true:=by kernel_rfl
theorem OC:BT prog 108 0=some 0:=by kernel_rfl
theorem Vy:BT prog 108 1=some 1:=by kernel_rfl
theorem FT:BT prog 108 2=some 2:=by kernel_rfl
theorem FZ:BT prog 108 3=some 3:=by kernel_rfl
theorem HF:BT prog 108 4=some 4:=by kernel_rfl
theorem WK:BT prog 108 5=some 5:=by kernel_rfl
theorem Vh:BT prog 108 6=some 6:=by kernel_rfl
theorem Vn:BT prog 110 0=some 0:=by kernel_rfl
theorem Hl:BT prog 110 1=some 1:=by kernel_rfl
theorem GJ:BT prog 110 2=some 2:=by kernel_rfl
theorem HG:BT prog 113 0=some 0:=by kernel_rfl
theorem Gp:BT prog 113 1=some 1:=by kernel_rfl
theorem HD:BT prog 113 2=some 2:=by kernel_rfl
theorem IB:BT prog 113 3=some 3:=by kernel_rfl
theorem Ly:BT prog 113 4=some 4:=by kernel_rfl
theorem ML:BT prog 113 5=some 5:=by kernel_rfl
theorem IV:BT prog 123 0=some 0:=by kernel_rfl
theorem Fe:BT prog 123 1=some 1:=by kernel_rfl
theorem IS:BT prog 123 2=some 2:=by kernel_rfl
theorem ME:BT prog 123 3=some 3:=by kernel_rfl
theorem Sb:BT prog 131 0=some 0:=by kernel_rfl
theorem aG:BT prog 131 1=some 1:=by kernel_rfl
theorem Lw:BT prog 131 2=some 2:=by kernel_rfl
theorem TT:BT prog 131 3=some 3:=by kernel_rfl
theorem HC:BT prog 133 0=some 0:=by kernel_rfl
theorem IT:BT prog 133 1=some 1:=by kernel_rfl
theorem Js:BT prog 133 2=some 2:=by kernel_rfl
theorem GL:BT prog 133 3=some 3:=by kernel_rfl
theorem VL:BT prog 137 0=some 0:=by kernel_rfl
theorem RB:BT prog 137 1=some 5:=by kernel_rfl
theorem HI:BT prog 137 2=some 6:=by kernel_rfl
theorem Qx:BT prog 137 3=some 7:=by kernel_rfl
theorem RC:BT prog 137 4=some 8:=by kernel_rfl
theorem Vj:BT prog 137 5=some 9:=by kernel_rfl
theorem Ko:BT prog 158 0=some 0:=by kernel_rfl
theorem TB:BT prog 158 1=some 1:=by kernel_rfl
theorem Qj:BT prog 158 2=some 2:=by kernel_rfl
theorem Qc:BT prog 158 3=some 3:=by kernel_rfl
theorem WM:BT prog 171 0=some 0:=by kernel_rfl
theorem Jq:BT prog 171 1=some 1:=by kernel_rfl
theorem MD:BT prog 171 2=some 2:=by kernel_rfl
theorem MJ:BT prog 194 0=some 0:=by kernel_rfl
theorem Kk:BT prog 194 1=some 1:=by kernel_rfl
theorem Qu:BT prog 194 2=some 3:=by kernel_rfl
theorem Lz:BT prog 205 0=some 0:=by kernel_rfl
theorem Jl:BT prog 205 1=some 1:=by kernel_rfl
theorem HS:BT prog 205 2=some 2:=by kernel_rfl
theorem QY:BT prog 215 0=some 0:=by kernel_rfl
theorem RD:BT prog 215 1=some 1:=by kernel_rfl
theorem Lu:BT prog 215 2=some 2:=by kernel_rfl
theorem IU:BT prog 215 3=some 3:=by kernel_rfl
theorem Va:BT prog 250 0=some 0:=by kernel_rfl
theorem Vz:BT prog 250 1=some 1:=by kernel_rfl
theorem Gx:BT prog 26 0=some 0:=by kernel_rfl
theorem Gg:BT prog 31 0=some 0:=by kernel_rfl
theorem IG:BT prog 31 1=some 1:=by kernel_rfl
theorem Gw:BT prog 31 2=some 2:=by kernel_rfl
theorem LH:BT prog 34 0=some 0:=by kernel_rfl
theorem Ff:BT prog 34 1=some 1:=by kernel_rfl
theorem FH:BT prog 34 2=some 4:=by kernel_rfl
theorem UW:BT prog 36 0=some 0:=by kernel_rfl
theorem Nd:BT prog 36 1=some 1:=by kernel_rfl
theorem Mt:BT prog 36 2=some 2:=by kernel_rfl
theorem MS:BT prog 36 3=some 3:=by kernel_rfl
theorem Mf:BT prog 36 4=some 4:=by kernel_rfl
theorem Ie:BT prog 41 0=some 0:=by kernel_rfl
theorem JG:BT prog 41 1=some 1:=by kernel_rfl
theorem Hy:BT prog 41 2=some 2:=by kernel_rfl
theorem KJ:BT prog 46 0=some 0:=by kernel_rfl
theorem IZ:BT prog 46 1=some 1:=by kernel_rfl
theorem Dm:BT prog 53 0=some 0:=by kernel_rfl
theorem Dl:BT prog 53 1=some 1:=by kernel_rfl
theorem IX:BT prog 55 0=some 0:=by kernel_rfl
theorem HQ:BT prog 55 1=some 1:=by kernel_rfl
theorem Jh:BT prog 81 0=some 0:=by kernel_rfl
theorem Qq:BT prog 81 1=some 1:=by kernel_rfl
theorem Xm:BT prog 84 0=some 0:=by kernel_rfl
theorem SH:BT prog 84 1=some 1:=by kernel_rfl
theorem LQ:BT prog 84 2=some 2:=by kernel_rfl
theorem dY:SS prog 113 4=some (111,4):=by kernel_rfl
theorem dH:SS prog 113 5=some (111,5):=by kernel_rfl
theorem vQ:Bm prog 10=true:=by kernel_rfl
theorem rR:Bm prog 100=true:=by kernel_rfl
theorem qE:Bm prog 101=true:=by kernel_rfl
theorem cN:Bm prog 102=true:=by kernel_rfl
theorem qK:Bm prog 103=true:=by kernel_rfl
theorem rM:Bm prog 104=true:=by kernel_rfl
theorem oH:Bm prog 105=true:=by kernel_rfl
theorem nO:Bm prog 106=true:=by kernel_rfl
theorem nS:Bm prog 107=true:=by kernel_rfl
theorem oP:Bm prog 108=true:=by kernel_rfl
theorem pA:Bm prog 109=true:=by kernel_rfl
theorem wC:Bm prog 11=true:=by kernel_rfl
theorem pX:Bm prog 110=true:=by kernel_rfl
theorem rJ:Bm prog 111=true:=by kernel_rfl
theorem qM:Bm prog 112=true:=by kernel_rfl
theorem Wm:Bm prog 113=true:=by kernel_rfl
theorem oL:Bm prog 114=true:=by kernel_rfl
theorem Uh:Bm prog 115=true:=by kernel_rfl
theorem XB:Bm prog 116=true:=by kernel_rfl
theorem Uu:Bm prog 117=true:=by kernel_rfl
theorem oV:Bm prog 118=true:=by kernel_rfl
theorem rZ:Bm prog 119=true:=by kernel_rfl
theorem xJ:Bm prog 12=true:=by kernel_rfl
theorem oK:Bm prog 120=true:=by kernel_rfl
theorem rB:Bm prog 121=true:=by kernel_rfl
theorem qA:Bm prog 122=true:=by kernel_rfl
theorem oX:Bm prog 123=true:=by kernel_rfl
theorem rO:Bm prog 124=true:=by kernel_rfl
theorem pZ:Bm prog 125=true:=by kernel_rfl
theorem rK:Bm prog 126=true:=by kernel_rfl
theorem bV:Bm prog 127=true:=by kernel_rfl
theorem aM:Bm prog 128=true:=by kernel_rfl
theorem pG:Bm prog 129=true:=by kernel_rfl
theorem tN:Bm prog 13=true:=by kernel_rfl
theorem bZ:Bm prog 130=true:=by kernel_rfl
theorem Zz:Bm prog 131=true:=by kernel_rfl
theorem rY:Bm prog 132=true:=by kernel_rfl
theorem aW:Bm prog 133=true:=by kernel_rfl
theorem SY:Bm prog 134=true:=by kernel_rfl
theorem cW:Bm prog 135=true:=by kernel_rfl
theorem sC:Bm prog 136=true:=by kernel_rfl
theorem qS:Bm prog 137=true:=by kernel_rfl
theorem Sy:Bm prog 138=true:=by kernel_rfl
theorem qO:Bm prog 139=true:=by kernel_rfl
theorem lW:Bm prog 14=true:=by kernel_rfl
theorem rC:Bm prog 140=true:=by kernel_rfl
theorem pN:Bm prog 141=true:=by kernel_rfl
theorem nK:Bm prog 142=true:=by kernel_rfl
theorem qT:Bm prog 143=true:=by kernel_rfl
theorem fO:Bm prog 144=true:=by kernel_rfl
theorem dC:Bm prog 145=true:=by kernel_rfl
theorem Uq:Bm prog 146=true:=by kernel_rfl
theorem aP:Bm prog 147=true:=by kernel_rfl
theorem fR:Bm prog 148=true:=by kernel_rfl
theorem qQ:Bm prog 149=true:=by kernel_rfl
theorem uH:Bm prog 15=true:=by kernel_rfl
theorem RI:Bm prog 150=true:=by kernel_rfl
theorem TR:Bm prog 151=true:=by kernel_rfl
theorem XX:Bm prog 152=true:=by kernel_rfl
theorem Sz:Bm prog 153=true:=by kernel_rfl
theorem oW:Bm prog 154=true:=by kernel_rfl
theorem Zu:Bm prog 155=true:=by kernel_rfl
theorem nT:Bm prog 156=true:=by kernel_rfl
theorem qY:Bm prog 157=true:=by kernel_rfl
theorem nV:Bm prog 158=true:=by kernel_rfl
theorem pJ:Bm prog 159=true:=by kernel_rfl
theorem xO:Bm prog 16=true:=by kernel_rfl
theorem aD:Bm prog 168=true:=by kernel_rfl
theorem bJ:Bm prog 169=true:=by kernel_rfl
theorem Ty:Bm prog 17=true:=by kernel_rfl
theorem aB:Bm prog 170=true:=by kernel_rfl
theorem cY:Bm prog 171=true:=by kernel_rfl
theorem sF:Bm prog 172=true:=by kernel_rfl
theorem rP:Bm prog 173=true:=by kernel_rfl
theorem oA:Bm prog 174=true:=by kernel_rfl
theorem rI:Bm prog 175=true:=by kernel_rfl
theorem qI:Bm prog 176=true:=by kernel_rfl
theorem nM:Bm prog 177=true:=by kernel_rfl
theorem rL:Bm prog 178=true:=by kernel_rfl
theorem oY:Bm prog 179=true:=by kernel_rfl
theorem YK:Bm prog 18=true:=by kernel_rfl
theorem eW:Bm prog 180=true:=by kernel_rfl
theorem pD:Bm prog 181=true:=by kernel_rfl
theorem qX:Bm prog 182=true:=by kernel_rfl
theorem Sn:Bm prog 183=true:=by kernel_rfl
theorem Zo:Bm prog 184=true:=by kernel_rfl
theorem Pe:Bm prog 19=true:=by kernel_rfl
theorem pL:Bm prog 190=true:=by kernel_rfl
theorem bM:Bm prog 191=true:=by kernel_rfl
theorem rF:Bm prog 192=true:=by kernel_rfl
theorem bB:Bm prog 193=true:=by kernel_rfl
theorem oF:Bm prog 194=true:=by kernel_rfl
theorem XD:Bm prog 195=true:=by kernel_rfl
theorem RO:Bm prog 196=true:=by kernel_rfl
theorem pU:Bm prog 197=true:=by kernel_rfl
theorem SW:Bm prog 198=true:=by kernel_rfl
theorem pW:Bm prog 199=true:=by kernel_rfl
theorem yG:Bm prog 20=true:=by kernel_rfl
theorem XW:Bm prog 200=true:=by kernel_rfl
theorem qJ:Bm prog 204=true:=by kernel_rfl
theorem Xb:Bm prog 205=true:=by kernel_rfl
theorem pS:Bm prog 206=true:=by kernel_rfl
theorem ZY:Bm prog 207=true:=by kernel_rfl
theorem cC:Bm prog 208=true:=by kernel_rfl
theorem nW:Bm prog 209=true:=by kernel_rfl
theorem lL:Bm prog 21=true:=by kernel_rfl
theorem qG:Bm prog 210=true:=by kernel_rfl
theorem rW:Bm prog 211=true:=by kernel_rfl
theorem fJ:Bm prog 212=true:=by kernel_rfl
theorem eE:Bm prog 213=true:=by kernel_rfl
theorem oC:Bm prog 217=true:=by kernel_rfl
theorem nP:Bm prog 218=true:=by kernel_rfl
theorem rG:Bm prog 219=true:=by kernel_rfl
theorem Xg:Bm prog 22=true:=by kernel_rfl
theorem nZ:Bm prog 220=true:=by kernel_rfl
theorem qR:Bm prog 221=true:=by kernel_rfl
theorem rS:Bm prog 222=true:=by kernel_rfl
theorem rN:Bm prog 223=true:=by kernel_rfl
theorem fV:Bm prog 224=true:=by kernel_rfl
theorem bI:Bm prog 225=true:=by kernel_rfl
theorem sE:Bm prog 226=true:=by kernel_rfl
theorem fB:Bm prog 227=true:=by kernel_rfl
theorem cZ:Bm prog 228=true:=by kernel_rfl
theorem cM:Bm prog 23=true:=by kernel_rfl
theorem lO:Bm prog 24=true:=by kernel_rfl
theorem Rp:Bm prog 25=true:=by kernel_rfl
theorem mQ:Bm prog 26=true:=by kernel_rfl
theorem nB:Bm prog 27=true:=by kernel_rfl
theorem YH:Bm prog 28=true:=by kernel_rfl
theorem vI:Bm prog 29=true:=by kernel_rfl
theorem tM:Bm prog 30=true:=by kernel_rfl
theorem xA:Bm prog 31=true:=by kernel_rfl
theorem lQ:Bm prog 32=true:=by kernel_rfl
theorem mK:Bm prog 33=true:=by kernel_rfl
theorem lK:Bm prog 34=true:=by kernel_rfl
theorem mJ:Bm prog 35=true:=by kernel_rfl
theorem lG:Bm prog 36=true:=by kernel_rfl
theorem nC:Bm prog 37=true:=by kernel_rfl
theorem So:Bm prog 38=true:=by kernel_rfl
theorem xV:Bm prog 39=true:=by kernel_rfl
theorem AdH:Bm prog 4=true:=by kernel_rfl
theorem mO:Bm prog 40=true:=by kernel_rfl
theorem xZ:Bm prog 41=true:=by kernel_rfl
theorem dJ:Bm prog 42=true:=by kernel_rfl
theorem tH:Bm prog 43=true:=by kernel_rfl
theorem mI:Bm prog 44=true:=by kernel_rfl
theorem xQ:Bm prog 45=true:=by kernel_rfl
theorem lZ:Bm prog 46=true:=by kernel_rfl
theorem xX:Bm prog 47=true:=by kernel_rfl
theorem Xz:Bm prog 48=true:=by kernel_rfl
theorem Vg:Bm prog 49=true:=by kernel_rfl
theorem AaK:Bm prog 5=true:=by kernel_rfl
theorem eC:Bm prog 50=true:=by kernel_rfl
theorem Qt:Bm prog 51=true:=by kernel_rfl
theorem mH:Bm prog 52=true:=by kernel_rfl
theorem Hk:Bm prog 53=true:=by kernel_rfl
theorem tS:Bm prog 54=true:=by kernel_rfl
theorem Xp:Bm prog 55=true:=by kernel_rfl
theorem vF:Bm prog 56=true:=by kernel_rfl
theorem wB:Bm prog 57=true:=by kernel_rfl
theorem UH:Bm prog 58=true:=by kernel_rfl
theorem mY:Bm prog 59=true:=by kernel_rfl
theorem AaC:Bm prog 6=true:=by kernel_rfl
theorem vV:Bm prog 60=true:=by kernel_rfl
theorem mD:Bm prog 61=true:=by kernel_rfl
theorem fE:Bm prog 62=true:=by kernel_rfl
theorem yI:Bm prog 63=true:=by kernel_rfl
theorem tK:Bm prog 64=true:=by kernel_rfl
theorem KG:Bm prog 65=true:=by kernel_rfl
theorem wY:Bm prog 66=true:=by kernel_rfl
theorem wI:Bm prog 67=true:=by kernel_rfl
theorem mE:Bm prog 68=true:=by kernel_rfl
theorem mF:Bm prog 69=true:=by kernel_rfl
theorem AbX:Bm prog 7=true:=by kernel_rfl
theorem wR:Bm prog 70=true:=by kernel_rfl
theorem YS:Bm prog 71=true:=by kernel_rfl
theorem uG:Bm prog 72=true:=by kernel_rfl
theorem uI:Bm prog 73=true:=by kernel_rfl
theorem DU:Bm prog 74=true:=by kernel_rfl
theorem Xt:Bm prog 75=true:=by kernel_rfl
theorem vM:Bm prog 76=true:=by kernel_rfl
theorem uQ:Bm prog 77=true:=by kernel_rfl
theorem wF:Bm prog 78=true:=by kernel_rfl
theorem yT:Bm prog 79=true:=by kernel_rfl
theorem AfM:Bm prog 8=true:=by kernel_rfl
theorem dE:Bm prog 80=true:=by kernel_rfl
theorem nA:Bm prog 81=true:=by kernel_rfl
theorem mV:Bm prog 82=true:=by kernel_rfl
theorem vU:Bm prog 83=true:=by kernel_rfl
theorem TS:Bm prog 84=true:=by kernel_rfl
theorem vK:Bm prog 85=true:=by kernel_rfl
theorem nG:Bm prog 86=true:=by kernel_rfl
theorem nI:Bm prog 87=true:=by kernel_rfl
theorem tA:Bm prog 88=true:=by kernel_rfl
theorem uM:Bm prog 89=true:=by kernel_rfl
theorem AeV:Bm prog 9=true:=by kernel_rfl
theorem tV:Bm prog 90=true:=by kernel_rfl
theorem xU:Bm prog 91=true:=by kernel_rfl
theorem YL:Bm prog 92=true:=by kernel_rfl
theorem fG:Bm prog 93=true:=by kernel_rfl
theorem lJ:Bm prog 94=true:=by kernel_rfl
theorem vD:Bm prog 95=true:=by kernel_rfl
theorem uZ:Bm prog 96=true:=by kernel_rfl
theorem YO:Bm prog 97=true:=by kernel_rfl
theorem YN:Bm prog 98=true:=by kernel_rfl
theorem yC:Bm prog 99=true:=by kernel_rfl
theorem oB:Ft prog 108=some ([.string ByteArray.empty, .i 0, .slice none 0 0, .slice none 0 0, .slice none 0 0, .i 0, .i 0],7,112):=by kernel_rfl
theorem XG:Ft prog 110=some ([.string ByteArray.empty, .i 0, .slice none 0 0],3,48):=by kernel_rfl
theorem Ri:Ft prog 113=some ([.i 0, .i 0, .i 0, .i 0, .slice none 0 0, .slice none 0 0],6,80):=by kernel_rfl
theorem OK:Ft prog 123=some ([.i 0, .i 0, .i 0, .i 0],4,32):=by kernel_rfl
theorem Ub:Ft prog 131=some ([.i 0, .i 0, .i 0, .bool false],4,32):=by kernel_rfl
theorem XM:Ft prog 133=some ([.slice none 0 0, .slice none 0 0, .slice none 0 0, .slice none 0 0],4,96):=by kernel_rfl
theorem Sf:Ft prog 158=some ([.i 0, .i 0, .i 0, .bool false],4,32):=by kernel_rfl
theorem QH:Ft prog 171=some ([.string ByteArray.empty, .i 0, .i 0],3,32):=by kernel_rfl
theorem Se:Ft prog 181=some ([.i 0, .i 0],2,16):=by kernel_rfl
theorem XP:Ft prog 194=some ([.i 0, .i 0, .i 0, .i 0, .i 0],5,40):=by kernel_rfl
theorem Ds:Ft prog 2=some ([.i 0],1,8):=by kernel_rfl
theorem qH:Ft prog 205=some ([.slice none 0 0, .slice none 0 0, .slice none 0 0],3,72):=by kernel_rfl
theorem RZ:Ft prog 215=some ([.string ByteArray.empty, .i 0, .i 0, .bool false],4,40):=by kernel_rfl
theorem bG:Ft prog 250=some ([.i 0, .i 0],2,16):=by kernel_rfl
theorem yQ:Ft prog 3=some ([.i 0],1,8):=by kernel_rfl
theorem Tx:Ft prog 37=some ([.slice none 0 0],1,24):=by kernel_rfl
theorem TV:Ft prog 4=some ([.bool false],1,1):=by kernel_rfl
theorem nQ:Ft prog 5=some ([.int .u8 0],1,1):=by kernel_rfl
theorem Xy:Ft prog 53=some ([.i 0, .i 0],2,16):=by kernel_rfl
theorem Zc:Ft prog 55=some ([.i 0, .i 0, .i 0],3,24):=by kernel_rfl
theorem KH:Ft prog 9=some ([.string ByteArray.empty],1,16):=by kernel_rfl
theorem Sv:∀(h:Int) (B:Int),iX prog 53 [.i h, .i B]=true:=by intros;kernel_rfl
theorem aT:Ew prog 108=some [(0,1),(1,1),(2,1),(3,1),(4,1),(5,1),(6,1)]:=by kernel_rfl
theorem oG:Ew prog 110=some [(0,1),(1,1),(2,1)]:=by kernel_rfl
theorem dR:Ew prog 113=some [(0,1),(1,1),(2,1),(3,1),(4,1),(5,1)]:=by kernel_rfl
theorem XT:Ew prog 123=some [(0,1),(1,1),(2,1),(3,1)]:=by kernel_rfl
theorem Za:Ew prog 131=some [(0,1),(1,1),(2,1),(3,1)]:=by kernel_rfl
theorem fM:Ew prog 133=some [(0,1),(1,1),(2,1),(3,1)]:=by kernel_rfl
theorem qU:Ew prog 137=some [(0,5),(5,1),(6,1),(7,1),(8,1),(9,1)]:=by kernel_rfl
theorem Zv:Ew prog 158=some [(0,1),(1,1),(2,1),(3,1)]:=by kernel_rfl
theorem Sl:Ew prog 171=some [(0,1),(1,1),(2,1)]:=by kernel_rfl
theorem KA:Ew prog 181=some [(0,1),(1,1)]:=by kernel_rfl
theorem Ud:Ew prog 194=some [(0,1),(1,2),(3,2)]:=by kernel_rfl
theorem oZ:Ew prog 205=some [(0,1),(1,1),(2,1)]:=by kernel_rfl
theorem Ss:Ew prog 215=some [(0,1),(1,1),(2,1),(3,1)]:=by kernel_rfl
theorem XO:Ew prog 250=some [(0,1),(1,1)]:=by kernel_rfl
theorem wO:Ew prog 26=some [(0,1)]:=by kernel_rfl
theorem fF:Ew prog 31=some [(0,1),(1,1),(2,1)]:=by kernel_rfl
theorem vC:Ew prog 34=some [(0,1),(1,3),(4,1)]:=by kernel_rfl
theorem YQ:Ew prog 36=some [(0,1),(1,1),(2,1),(3,1),(4,1)]:=by kernel_rfl
theorem Xn:Ew prog 41=some [(0,1),(1,1),(2,1)]:=by kernel_rfl
theorem Rq:Ew prog 46=some [(0,1),(1,1)]:=by kernel_rfl
theorem IW:Ew prog 53=some [(0,1),(1,1)]:=by kernel_rfl
theorem Nl:Ew prog 55=some [(0,1),(1,2)]:=by kernel_rfl
theorem yN:Ew prog 81=some [(0,1),(1,1)]:=by kernel_rfl
theorem vP:Ew prog 84=some [(0,1),(1,1),(2,1)]:=by kernel_rfl
theorem Ih:GQ prog 108=some [.string ByteArray.empty, .i 0, .slice none 0 0, .slice none 0 0, .slice none 0 0, .i 0, .i 0]:=by kernel_rfl
theorem Ot:GQ prog 110=some [.string ByteArray.empty, .i 0, .slice none 0 0]:=by kernel_rfl
theorem Ln:GQ prog 113=some [.i 0, .i 0, .i 0, .i 0, .slice none 0 0, .slice none 0 0]:=by kernel_rfl
theorem Lj:GQ prog 123=some [.i 0, .i 0, .i 0, .i 0]:=by kernel_rfl
theorem Sa:GQ prog 131=some [.i 0, .i 0, .i 0, .bool false]:=by kernel_rfl
theorem Li:GQ prog 133=some [.slice none 0 0, .slice none 0 0, .slice none 0 0, .slice none 0 0]:=by kernel_rfl
theorem sD:GQ prog 137=some [.slice none 0 0, .slice none 0 0, .slice none 0 0, .slice none 0 0, .slice none 0 0, .slice none 0 0, .slice none 0 0, .slice none 0 0, .slice none 0 0, .slice none 0 0]:=by kernel_rfl
theorem Wj:GQ prog 158=some [.i 0, .i 0, .i 0, .bool false]:=by kernel_rfl
theorem OH:GQ prog 171=some [.string ByteArray.empty, .i 0, .i 0]:=by kernel_rfl
theorem JR:GQ prog 181=some [.i 0, .i 0]:=by kernel_rfl
theorem Pu:GQ prog 194=some [.i 0, .i 0, .i 0, .i 0, .i 0]:=by kernel_rfl
theorem Wv:GQ prog 205=some [.slice none 0 0, .slice none 0 0, .slice none 0 0]:=by kernel_rfl
theorem OT:GQ prog 215=some [.string ByteArray.empty, .i 0, .i 0, .bool false]:=by kernel_rfl
theorem TM:GQ prog 250=some [.i 0, .i 0]:=by kernel_rfl
theorem Xf:GQ prog 26=some [.slice none 0 0]:=by kernel_rfl
theorem TP:GQ prog 31=some [.slice none 0 0, .slice none 0 0, .slice none 0 0]:=by kernel_rfl
theorem OW:GQ prog 34=some [.slice none 0 0, .slice none 0 0, .slice none 0 0, .slice none 0 0, .slice none 0 0]:=by kernel_rfl
theorem Nk:GQ prog 36=some [.string ByteArray.empty, .i 0, .i 0, .i 0, .i 0]:=by kernel_rfl
theorem tU:GQ prog 4=some [.bool false]:=by kernel_rfl
theorem KZ:GQ prog 41=some [.slice none 0 0, .slice none 0 0, .slice none 0 0]:=by kernel_rfl
theorem KD:GQ prog 46=some [.slice none 0 0, .slice none 0 0]:=by kernel_rfl
theorem FQ:GQ prog 53=some [.i 0, .i 0]:=by kernel_rfl
theorem IL:GQ prog 55=some [.i 0, .i 0, .i 0]:=by kernel_rfl
theorem yE:GQ prog 81=some [.pointer none, .slice none 0 0]:=by kernel_rfl
theorem xE:GQ prog 84=some [.slice none 0 0, .i 0, .i 0]:=by kernel_rfl
def aX(n:Nat)(a0_s:ByteArray)(a1_cutset:ByteArray):Option ByteArray:=if a0_s.size<=9223372036854775807∧a1_cutset.size<4294967281∧(a1_cutset.data.toList.all fun b=>decide (b.toNat<128))=true then some ⟨(Lib.trimS a0_s.data.toList a1_cutset.data.toList).toArray⟩else none
theorem AeP{n:Nat}{a0_s a1_cutset c:ByteArray}{w:World}(a:aX n a0_s a1_cutset=some c):
 Calls prog 125 [.string a0_s, .string a1_cutset].toArray w (Gh fun d e=>d= .string c∧Bl w e):=by
 unfold aX at a
 split at a
 ·rename_i b
  obtain rfl:=Ai a
  refine(strings_Trim_ascii a0_s a1_cutset w b.1 b.2.1 (fun g f hb=>Cu (CX.1 b.2.2 f (Dw hb)))).mono ?_
  rintro h w' ⟨rfl,hB⟩
  exact⟨_,z,z,hB⟩
 ·cases a
def pY(n:Nat)(a0_s:ByteArray)(a1_c:Int):Option Int:=some (Lib.indexByte a0_s.data.toList a1_c.toNat.toUInt8)
theorem AcE{n:Nat}{a0_s:ByteArray}{a1_c a:Int}{w:World}(b:pY n a0_s a1_c=some a):
 Calls prog 126 [.string a0_s, .int .u8 a1_c].toArray w (Gh fun c d=>c= .i a∧Bl w d):=by
 obtain rfl:=Ai b
 refine(strings_IndexByte a0_s a1_c w).mono ?_
 rintro e w' ⟨rfl,rfl⟩
 exact⟨_,z,z,AF _⟩
def LM(a0:List ByteArray)(a1:ByteArray)(k0:Int->Option Int):Nat->Int->Option Int
 |0,_=>none
 |m+1,a=>cond (decide (a<(a0.length:Int))) ((AU a0 a).bind fun b=>cond (a1.toList==b.toList) (some a) (LM a0 a1 k0 m (wrap .i64 (a+1)))) (k0 a)
def gU(n:Nat)(a0:List ByteArray)(a1:ByteArray):Option Int:=LM a0 a1 (fun a=>some (-1)) n 0
theorem AeM{f:List ByteArray}{g:ByteArray}{i:Int}{j:Value}(a:gU n f g=some i)(m:H<=w.heap.size)(k:BD Bw w H f j):
 Calls prog 197 [j,.string g].toArray w (Cx (.i i) w):=by
 have l:=AF w;unfold gU at a;refine AI func197 z ntmps197 (Rc 9 (Yl z (IF z Fm (k.oj l)) (Ro 4 ?_)));refine AL (fun b h wl=>∃c:Int,Kn 19 [(0,j),(1,.string g),(7,.i ((f.length:Int))),(8,.i c)] h∧Bl w wl∧LM f g (fun c=>(some (-1))) b c=some i) n ?_ ?_
 ·intro h d;exact⟨0,d.sub z,AF _,a⟩
 ·rintro b h _ ⟨c,d,e,a⟩;refine En d ?_;rcases b with _|b;exact Ek a;rw [LM.eq_2]at a;have p:=e.size;refine Rc 6 (Wf a e ?_);intro a;refine Rc 15 (Il a (k.oj e) Fm Rz KB ?_);rintro _ a _;refine Ro 3 (Wt a e ?_);intro a;refine Rc 8 ?_;intro h d;exact⟨b,nr,(wrap .i64 (c+1)),d.sub z,e,a⟩
def dS(n:Nat)(a0:List ByteArray)(a1:ByteArray):Option Bool:=(gU n a0 a1).bind fun a=>some (decide (a>=0))
theorem AfG{b:List ByteArray}{c:ByteArray}{d:Bool}{e:Value}(a:dS n b c=some d)(j:H<=w.heap.size)(g:BD Bw w H b e):
 Calls prog 176 [e,.string c].toArray w (Cx (.bool d) w):=by
 have f:=AF w;unfold dS at a;refine AI func176 z ntmps176 (Rc 9 (Cs a f pU (fun _ h=>(AeM h (by omega) (g.oj f):)) ?_));rintro _ a _ _ ⟨i,_⟩;exact Gv a i
def Mg(a0:List Int)(k0:Int->Int->Option Int):Nat->Int->Int->Option Int
 |0,_,_=>none
 |m+1,b,a=>cond (decide (a<(a0.length:Int))) ((AU a0 a).bind fun c=>Mg a0 k0 m (min b c) (wrap .i64 (a+1))) (k0 b a)
def bU(n:Nat)(a0:List Int):Option Int:=cond (decide ((a0.length:Int)<1)) none ((AU a0 0).bind fun c=>Mg a0 (fun a b=>some a) n c 1)
theorem AdL{i:List Int}{j:Int}{k:Value}(a:bU n i=some j)(p:H<=w.heap.size)(g:BD cJ w H i k):
 Calls prog 220 [k].toArray w (Cx (.i j) w):=by
 have l:=AF w;unfold bU at a;refine AI func220 z ntmps220 (Rc 9 (Yl z (IF z BF (g.oj l)) (Ro 3 (Wc z a ?_ ?_))))
 ·intro a;cases a
 ·intro a;refine Rc 5 (Il a (g.oj l) BF CD Aq ?_);rintro m a _;refine Ro 10 (AL (fun c h wl=>∃b d:Int,Kn 25 [(0,k),(3,.i b),(4,.i d)] h∧Bl w wl∧Mg i (fun b d=>(some b)) c b d=some j) n ?_ ?_)
  ·intro h e;exact⟨m,1,e.sub z,AF _,a⟩
  ·rintro c h _ ⟨b,d,e,f,a⟩;refine En e ?_;rcases c with _|c;exact Ek a;rw [Mg.eq_2]at a;have r:=f.size;refine Rc 5 (Yl z (IF z BF (g.oj f)) (Ro 3 (Wf a f ?_)));intro a;refine Rc 8 (Il a (g.oj f) BF CD Aq ?_);rintro o a _;refine Yl z (HE z z z) (Ro 10 ?_);intro h e;exact⟨c,nr,(min b o),(wrap .i64 (d+1)),e.sub z,f,a⟩
def gO(n:Nat)(a0:List Int):Option (List Int):=(EU (([]:List Int)) a0 8).bind fun a=>some a
theorem AaD{d b:List Int}{e:Value}(a:gO n d=some b)(s:H<=w.heap.size)(f:BD cJ w H d e):
 Calls prog 107 [e].toArray w (Gh fun o g=>∃h,o=h∧AS cJ g w.heap.size (Iv 0 0) 2 b h∧Bl w g):=by
 have i:=AF w;unfold gO at a;refine AI func107 z ntmps107 (Rc 9 ?_)
 rcases Ae.nil_or (f.oj i)with ⟨rfl,hnil⟩|⟨p_,n_,c_,rfl⟩
 ·replace a:(some (([]:List Int)))=some b:=(by simpa [hnil,EU] using a);refine Yl z (VQ z BF z z) (Ro 2 (WC.cond_t z (Rc 7 ?_)));cases CV a;exact Ne z z ⟨_,z,_,z,Bi _ _ _ _ _,i⟩
 ·refine Yl z (WO z BF z z) (Ro 2 (WC.cond_f z (Rc 4 (Ef z (BR cJ (([]:List Int)) [] z BF Ds z z trivial) ?_))));rintro _ _ ⟨_,j,_,_,c,p⟩;have A:=c.size;have k:=Bn j;clear j;have⟨_,q,a⟩:=AY a;refine Ro 1 (Ef z (BY (c:=cJ) z BF Ds z z z z z p (by omega) (f.oj c) q) ?_);rintro _ _ ⟨l,m⟩;have⟨r,_⟩:=Ge c m k;have h:=IY m l k;cases CV a;exact Ro 4 (Ne z z ⟨_,z,_,z,AH l,r⟩)
def NB(a0:List Int)(a1:Int)(k0:Int->Option Int):Nat->Int->Option Int
 |0,_=>none
 |m+1,a=>cond (decide (a<(a0.length:Int))) ((AU a0 a).bind fun b=>cond (a1==b) (some a) (NB a0 a1 k0 m (wrap .i64 (a+1)))) (k0 a)
def cR(n:Nat)(a0:List Int)(a1:Int):Option Int:=NB a0 a1 (fun a=>some (-1)) n 0
theorem AeF{f:List Int}{g i:Int}{j:Value}(a:cR n f g=some i)(m:H<=w.heap.size)(k:BD cJ w H f j):
 Calls prog 89 [j,.i g].toArray w (Cx (.i i) w):=by
 have l:=AF w;unfold cR at a;refine AI func89 z ntmps89 (Rc 9 (Yl z (IF z KF (k.oj l)) (Ro 4 ?_)));refine AL (fun b h wl=>∃c:Int,Kn 19 [(0,j),(1,.i g),(7,.i ((f.length:Int))),(8,.i c)] h∧Bl w wl∧NB f g (fun c=>(some (-1))) b c=some i) n ?_ ?_
 ·intro h d;exact⟨0,d.sub z,AF _,a⟩
 ·rintro b h _ ⟨c,d,e,a⟩;refine En d ?_;rcases b with _|b;exact Ek a;rw [NB.eq_2]at a;have p:=e.size;refine Rc 6 (Wf a e ?_);intro a;refine Rc 15 (Il a (k.oj e) KF Og TN ?_);rintro _ a _;refine Ro 3 (Wt a e ?_);intro a;refine Rc 8 ?_;intro h d;exact⟨b,nr,(wrap .i64 (c+1)),d.sub z,e,a⟩
def cX(n:Nat)(a0:Int):Option Bool:=some ((a0 !=a0))
theorem tQ{a:Int}{b:Bool}(c:cX n a=some b):
 Calls prog 224 [.i a].toArray w (Cx (.bool b) w):=by
 have d:=AF w;unfold cX at c;exact AI func224 z ntmps224 (lP c d)
def jU(n:Nat)(a0:Int)(a1:Int):Option Bool:=(cX n a0).bind fun b=>(cond b ((cX n a1).bind fun a=>some (!a)) (some false)).bind fun c=>some ((c||(decide (a0<a1))))
theorem AfT{b c:Int}{d:Bool}(a:jU n b c=some d):
 Calls prog 211 [.i b,.i c].toArray w (Cx (.bool d) w):=by
 have f:=AF w;unfold jU at a;refine AI func211 z ntmps211 (Rc 8 (Cs a f fV (fun _=>tQ) ?_));rintro _ a _ _ ⟨e,_⟩;refine Ro 1 (KC 4 [0,1] 11 7 a ?_ ?_)
 ·intro g a;refine Ro 1 (Cs a e fV (fun _=>tQ) ?_);rintro _ a _ h ⟨_,_⟩;cases CV a;exact Ro 1 (Ro 1 (HR h))
 intro g a;intro s H;have⟨i,_⟩:=Et e H;refine Ro 1 (vH 4 [] 16 12 ?_);exact Gv a i
def Wx(n:Nat)(a0:Int):Option Bool:=some ((a0 !=a0))
theorem uT{a:Int}{b:Bool}(c:Wx n a=some b):
 Calls prog 212 [.i a].toArray w (Cx (.bool b) w):=by
 have d:=AF w;unfold Wx at c;exact AI func212 z ntmps212 (lP c d)
def Na(n:Nat)(a0:List Int)(a1:Int)(k0:Int->Int->Option (Int×Bool)):Nat->Int->Int->Option (Int×Bool)
 |0,_,_=>none
 |m+1,a,b=>cond (decide (a<b)) ((AU a0 (wrap .i64 (Vo .u64 (IntKind.wrap IntKind.u64 (wrap .i64 (a+b))) 1))).bind fun d=>(jU n d a1).bind fun c=>cond c (Na n a0 a1 k0 m (wrap .i64 ((wrap .i64 (Vo .u64 (IntKind.wrap IntKind.u64 (wrap .i64 (a+b))) 1))+1)) b) (Na n a0 a1 k0 m a (wrap .i64 (Vo .u64 (IntKind.wrap IntKind.u64 (wrap .i64 (a+b))) 1)))) (k0 a b)
def ZK(n:Nat)(a0:List Int)(a1:Int):Option (Int×Bool):=Na n a0 a1 (fun a i=>(cond (decide (a<(a0.length:Int))) ((AU a0 a).bind fun g=>(cond (g==a1) (some true) ((AU a0 a).bind fun c=>(Wx n c).bind fun e=>(cond e ((Wx n a1).bind fun b=>some b) (some false)).bind fun f=>some f)).bind fun d=>some d) (some false)).bind fun h=>some (a,h)) n 0 ((a0.length:Int))
theorem AcW{f:List Int}{g:Int}{B:Int×Bool}{j:Value}(h:ZK n f g=some B)(hH:H<=w.heap.size)(i:BD cJ w H f j):
 Calls prog 199 [j,.i g].toArray w (Gh fun p q=>p= .tuple #[.i B.1,.bool B.2]∧Bl w q):=by
 have r:=AF w;unfold ZK at h;refine AI func199 z ntmps199 (Rc 9 (Yl z (IF z BF (i.oj r)) (Ro 12 ?_)));have⟨s,t,h⟩:=Nr h;refine AL (fun b c wl=>∃d e:Int,Kn 54 [(0,j),(1,.i g),(6,.i ((f.length:Int))),(7,.i d),(8,.i e)] c∧Bl w wl∧Na n f g s b d e=some B) n ?_ ?_
 ·intro c hK;exact⟨0,((f.length:Int)),hK.sub z,AF _,h⟩
 ·rintro b c _ ⟨d,e,hK,a,h⟩;refine En hK ?_;rcases b with _|b;exact Ek h;rw [Na.eq_2]at h;have B:=a.size;refine Rc 8 (Wc z h ?_ ?_)
  ·intro h;refine Rc 8 (Yl z (Jr z ud3 Xs z) (Yl z (kZ z z z (by decide)) (Yl z (Jr z Xs ud3 z) (Ro 7 (Il h (i.oj a) BF CD Aq ?_)))));rintro _ h _;refine Ro 1 (Cs h a rW (fun _=>AfT) ?_);rintro _ h _ k ⟨_,_⟩;refine Ro 2 (Wc z h ?_ ?_)
   ·intro h;refine Rc 7 ?_;intro c hK;exact⟨b,nr,(wrap .i64 ((wrap .i64 (Vo .u64 (IntKind.wrap IntKind.u64 (wrap .i64 (d+e))) 1))+1)),e,hK.sub z,(AC a k),h⟩
   ·intro h;refine Rc 6 ?_;intro c hK;exact⟨b,nr,d,(wrap .i64 (Vo .u64 (IntKind.wrap IntKind.u64 (wrap .i64 (d+e))) 1)),hK.sub z,(AC a k),h⟩
  ·intro h;refine Rc 3 ?_
   subst t
   refine Re 9 (KC 18 [31] 53 35 h ?_ ?_)
   ·intro u h;refine Ro 2 (Il h (i.oj a) BF CD Aq ?_);rintro _ h _;refine Ro 3 (PE 10 [31,35] 52 42 h ?_ ?_)
    ·intro v h;refine Ro 2 (Il h (i.oj a) BF CD Aq ?_);rintro _ h _;refine Cs h a fJ (fun _=>uT) ?_;rintro _ h _ x ⟨l,_⟩;refine Ro 1 (KC 3 [31,35,42] 51 48 h ?_ ?_)
     ·intro y h;refine Ro 1 (Cs h l fJ (fun _=>uT) ?_);rintro _ h _ A ⟨_,_⟩;cases CV h;exact Ro 1 (HR A)
     intro y h;intro V m;have⟨_,_⟩:=Et l m;cases CV h;exact Ro 1 (TL.nil fun c B=>⟨B.sub z,(AC x m)⟩)
    intro v h;intro B o;have⟨_,_⟩:=Et a o;cases CV h;exact Ro 1 (HR o)
   intro u h;intro B C;have⟨D,_⟩:=Et a C;exact Gv h D
theorem AcF{b:Value}:Calls prog 39 [b].toArray w (Gh fun d c=>∃a,d= .func (.func 91) #[] #[.p a]∧Pv w c a b.cells.toList 37):=by
 refine AI func39 z ntmps39 ?_
 refine Rc 2 (Ef z (Am z z) ?_)
 rintro _ c ⟨a,rfl,e⟩
 refine Ro 5 (Yl z (HK z z z) (Ro 4 ?_))
 exact DS (rs:=[.tmp 2]) (vs:=[.func (.func 91) #[] #[.p a]]) z ⟨z,trivial⟩ ⟨_,z,a,z,e⟩
end Go.Proofs.YtpnjglnpdmgghaaGreatDoor
