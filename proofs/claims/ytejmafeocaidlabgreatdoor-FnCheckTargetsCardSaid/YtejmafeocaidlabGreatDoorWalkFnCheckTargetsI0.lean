/- The walks: every function that FnCheckTargets reaches computes the plain function that is typed beside it; no condition. -/
import Derived.Test.YtejmafeocaidlabGreatDoorWalkFnCheckTargetsB0
set_option linter.all false
set_option maxRecDepth 20000
set_option maxHeartbeats 40000000
namespace Go.Proofs.YtejmafeocaidlabGreatDoor
open Go Go.RowKit Go.Eng Go.Proofs.Tryz
open Go.IntKind (wrap)
variable {n H:Nat} {w:World}
def Ld(n:Nat)(a0:Int)(a1:Int)(a2:Int):Option Bool:=some (((decide (a0>=a1))&&(decide (a0<=a2))))
theorem Tu{a b c:Int}{d:Bool}(e:Ld n a b c=some d):
 Calls prog 61 [.i a,.i b,.i c].toArray w (Cf (.bool d) w):=by
 have f:=AU.refl w;unfold Ld at e;refine AE func61 z ntmps61 (Rc 11 (Zg 4 [] 14 10 ?_));exact GQ e f
def XR(n:Nat)(a0:ByteArray):Option Bool:=(Ld n ((a0.size:Int)) 1 8).bind fun e=>(cond e ((Yt n a0 ((ByteArray.mk #[97,98,99,100,101,102,103,104,105,106,107,108,109,110,111,112,113,114,115,116,117,118,119,120,121,122,48,49,50,51,52,53,54,55,56,57]))).bind fun d=>some ((d.toList==((ByteArray.mk #[])).toList))) (some false)).bind fun f=>(cond f ((TI a0 0).bind fun a=>(oC n ((ByteArray.mk #[97,98,99,100,101,102,103,104,105,106,107,108,109,110,111,112,113,114,115,116,117,118,119,120,121,122])) a).bind fun c=>some (decide (c>=0))) (some false)).bind fun b=>some b
theorem rU{b:ByteArray}{c:Bool}(a:XR n b=some c):
 Calls prog 168 [.string b].toArray w (Cf (.bool c) w):=by
 have f:=AU.refl w;unfold XR at a;refine AE func168 z ntmps168 (Rc 8 (Yl z (Pf z Xm z) ?_));refine Cs a f IS (fun _=>Tu) ?_;rintro _ a _ _ ⟨d,_⟩;refine Ro 1 (JD 4 [0] 10 6 a ?_ ?_)
 ·intro g a;refine Ro 1 (Cs a d lG (fun _=>xU) ?_);rintro _ a _ H ⟨_,_⟩;cases CF a;exact Ro 1 (Ro 1 (Gj H))
 intro g a;intro x h;have⟨e,_⟩:=Et d h;refine Ro 1 (JD 5 [] 16 11 a ?_ ?_)
 ·intro i a;have⟨_,j,a⟩:=AO a;refine Ro 1 (Yl z (IA z Xm z z j) ?_);refine Cs a e mW (fun _=>AbQ) ?_;rintro _ a _ k ⟨_,_⟩;cases CF a;exact Ro 1 (Ro 1 (Gj k))
 intro i a;intro F l;have⟨m,_⟩:=Et e l;exact GQ a m
def ME(n:Nat)(a0:List ByteArray)(k0:Int->Option Bool):Nat->Int->Option Bool
 |0,_=>none
 |m+1,a=>cond (decide (a<(a0.length:Int))) ((AL a0 a).bind fun f=>(XR n f).bind fun e=>(cond (!e) (some true) ((LQ a0 0 a).bind fun c=>(cV n c f).bind fun b=>some b)).bind fun d=>cond d (some false) (ME n a0 k0 m (wrap .i64 (a+1)))) (k0 a)
def TP(n:Nat)(a0:List ByteArray):Option Bool:=ME n a0 (fun a=>some true) n 0
theorem Zn{f:List ByteArray}{i:Bool}{g:Value}(a:TP n f=some i)(v:H<=w.heap.size)(j:At Bc w H f g):
 Calls prog 154 [g].toArray w (Cf (.bool i) w):=by
 have m:=AU.refl w;unfold TP at a;refine AE func154 z ntmps154 (Rc 9 (Yl z (HK z Ez (j.oj m)) (Ro 4 ?_)));refine WC.loopD (fun b h wl=>∃c:Int,Kn 23 [(0,g),(5,g),(6,.i ((f.length:Int))),(7,.i c)] h∧AU w wl∧ME n f (fun c=>(some true)) b c=some i) n ?_ ?_
 ·intro h d;exact⟨0,d.sub z,AU.refl _,a⟩
 ·rintro b h _ ⟨c,d,e,a⟩;refine EK d ?_;rcases b with _|b;exact EI a;rw [ME.eq_2]at a;have y:=e.size;refine Rc 6 (Wf a e ?_);intro a;refine Rc 7 (Il a (j.oj e) Ez Qm JW ?_);rintro _ a _;refine Ro 7 (Cs a e YZ (fun _=>rU) ?_);rintro _ a _ o ⟨k,_⟩;refine Ro 2 (PI 6 [0,5,6,7] 21 15 a ?_ ?_)
  ·intro p a;have⟨_,q,a⟩:=AO a;refine Ro 2 (Ye z (Qc (c:=Bc) z Ez Qm z z (j.oj k) q) ?_);rintro _ r;refine Ro 1 (Cs a k oA (fun _ s=>(AaL s (by omega) r:)) ?_);rintro _ a _ t ⟨_,_⟩;cases CF a;exact Ro 1 (Gj t)
  intro p a;intro L l;have⟨u,_⟩:=Et k l;refine Ro 2 (Wt a u ?_);intro a;refine Rc 8 ?_;intro h d;exact⟨b,nr,(wrap .i64 (c+1)),d.sub z,(AU.trans (AU.trans e o) l),a⟩
def Vq(n:Nat)(a0:List DZ):Option Int:=some ((a0.length:Int))
theorem rJ{a:List DZ}{b:Int}{c:Value}(d:Vq n a=some b)(g:H<=w.heap.size)(f:At C_Pin w H a c):
 Calls prog 183 [c].toArray w (Cf (.i b) w):=by
 have e:=AU.refl w;unfold Vq at d;exact AE func183 z ntmps183 (Rc 8 (Yl z (HK z GC (f.oj e)) (GQ d e)))
def Jw(n:Nat)(a0:List DZ)(k0:(List ByteArray)->Int->Option Bool):Nat->(List ByteArray)->Int->Option Bool
 |0,_,_=>none
 |m+1,f,b=>cond (decide (b<(a0.length:Int))) ((AL a0 b).bind fun a=>(De f [a.f] 16).bind fun c=>cond (b==(wrap .i64 (((a0.length:Int))-1))) (cond (((((a.b !=2))||((a.c !=0))))||a.d) (some false) (Jw n a0 k0 m c (wrap .i64 (b+1)))) ((cond (a.b !=1) (some true) ((Ld n a.c 0 500).bind fun e=>some (!e))).bind fun d=>cond d (some false) (Jw n a0 k0 m c (wrap .i64 (b+1))))) (k0 f b)
def ZG(n:Nat)(a0:List DZ):Option Bool:=Jw n a0 (fun e f=>(Vq n a0).bind fun a=>(Ld n a 2 5).bind fun d=>(cond d ((TP n e).bind fun b=>some b) (some false)).bind fun c=>some c) n (([]:List ByteArray)) 0
theorem xG{l:List DZ}{s:Bool}{m:Value}(a:ZG n l=some s)(hH:H<=w.heap.size)(o:At C_Pin w H l m):
 Calls prog 169 [m].toArray w (Cf (.bool s) w):=by
 have x:=AU.refl w;unfold ZG at a;refine AE func169 z ntmps169 (Rc 14 (Yl z (HK z GC (o.oj x)) (Ro 4 ?_)));have L:AC Bc w (w.heap.size) (Iv 0 0) 9 [] (.slice none 0 0):=AC.nil _ _ _ _ _;have M:Bd (Value.slice none 0 0) w.heap.size w.heap.size:=Hp;have⟨N,O,a⟩:=MW a;refine WC.loopD (fun g h wl=>∃(t:List ByteArray) (p:Value) (i:Int),Kn 52 [(0,m),(3,p),(6,m),(7,.i ((l.length:Int))),(8,.i i)] h∧AU w wl∧w.heap.size<=wl.heap.size∧AC Bc wl (w.heap.size) (Iv 0 0) 9 t p∧Bd p w.heap.size wl.heap.size∧Jw n l N g t i=some s) n ?_ ?_
 ·intro h e;exact⟨(([]:List ByteArray)),((.slice none 0 0)),0,e.sub z,x,nr,L,(fun j hg=>by have:=M j hg;omega),a⟩
 ·rintro g h _ ⟨t,p,i,e,q,_,b,r,a⟩;refine EK e ?_;rcases g with _|g;exact EI a;rw [Jw.eq_2]at a;refine Rc 6 (Wc z a ?_ ?_)
  ·intro a;refine Rc 7 (Ix a (o.oj q) GC Gq ?_);rintro d _ a _ ⟨_,_,_,rfl,_,P,Q⟩;obtain rfl:=Fg P;refine Yl z (FT (us:=[.string d.f,.i d.b,.i d.c,.bool d.d]) z Ta Q Gq) (Ef z (AZ z NR) ?_);rintro _ _ ⟨_,rfl,_,_,y,c⟩;have⟨R,_⟩:=Et q y;have b:=b.ext y;refine Ro 1 (Ef z (DQ z c Gq z z) ?_);rintro _ _ ⟨A,c⟩;have⟨T,_⟩:=Eu R A;have b:=Zo (Am b r) A;refine Ro 5 (Fl PL JW c (Ef z (Aq Bc [d.f] [[.string d.f]] z Ez JP z z ⟨z,trivial⟩) ?_));rintro _ _ ⟨_,B,_,_,C,U⟩;have⟨V,_⟩:=Et T C;have⟨c,b⟩:=Di c b C;have z0:=BK B;clear B;have⟨D,W,a⟩:=AO a;refine Ef z (BA (c:=Bc) z Ez JP z z z z z b (by omega) (AC.slf U nr nr) W) ?_;rintro E _ ⟨f,u⟩;have⟨k,_⟩:=Ge V u r;have c:=Ah.box u c (Nb.of r);have F:=HZ u f r;refine Ro 7 (Yl z (HK z GC (o.oj k)) (Ro 4 (Wc z a ?_ ?_)))
   ·intro a;refine Rc 2 (Fl Pe AR c (Ro 2 (Sg 4 [0,3,5,6,7,8] 30 26 ((d.c !=0)) z ?_ ?_)))
    ·exact Fl LF AR c (Ro 2 (Fk))
    refine Ro 1 (Sg 3 [0,3,6,7,8] 34 31 d.d z ?_ ?_)
    ·exact Fl Hg Gi c (Ro 1 (Fk))
    refine Ro 2 (Wt a k ?_);intro a;refine Rc 8 ?_;intro h e;exact⟨g,nr,D,E,(wrap .i64 (i+1)),e.sub z,k,(by omega),f,(fun j hg=>by have:=F j hg;omega),a⟩
   ·intro a;refine Rc 2 (Fl Pe AR c (Ro 2 (PI 5 [0,3,6,7,8] 43 38 a ?_ ?_)))
    ·intro X a;refine Fl LF AR c ?_;refine Cs a k IS (fun _=>Tu) ?_;rintro _ a _ G ⟨_,_⟩;have f:=f.ext G;cases CF a;exact Ro 1 (Ro 1 (Gj G))
    intro X a;intro G0 I;have⟨J,_⟩:=Et k I;have f:=f.ext I;refine Ro 2 (Wt a J ?_);intro a;refine Rc 8 ?_;intro h e;exact⟨g,nr,D,E,(wrap .i64 (i+1)),e.sub z,J,(by omega),f,(fun j hg=>by have:=F j hg;omega),a⟩
  ·intro a;refine Rc 3 ?_
   subst O
   refine Re 5 ?_;refine Cs a q Yu (fun _ v=>(rJ v (by omega) (o.oj q):)) ?_;rintro _ a _ Y ⟨Z,_⟩;have b:=b.ext Y;refine Cs a Z IS (fun _=>Tu) ?_;rintro _ a _ a0 ⟨K,_⟩;have b:=b.ext a0;refine Ro 1 (JD 3 [] 51 48 a ?_ ?_)
   ·intro b0 a;refine Ro 1 (Cs a K RW (fun _ v=>(Zn v nr (AC.slf b nz nr):)) ?_);rintro _ a _ c0 ⟨_,_⟩;cases CF a;exact Ro 1 (Gj c0)
   intro b0 a;intro S0 d0;have⟨e0,_⟩:=Et K d0;exact GQ a e0
def TR(n:Nat)(a0:Int):Option Bool:=some ((((a0==4))||((a0==5))))
theorem mI{a:Int}{b:Bool}(c:TR n a=some b):
 Calls prog 69 [.i a].toArray w (Cf (.bool b) w):=by
 have d:=AU.refl w;unfold TR at c;refine AE func69 z ntmps69 (Rc 10 (rE 3 [] 8 5 ?_));exact GQ c d
def Ug(n:Nat)(a0:BL):Option Int:=(Vq n a0.d).bind fun a=>some (wrap .i64 (a-1))
theorem lZ{a:BL}{d:Int}{e f g:Value}(b:Ug n a=some d)(l:H<=w.heap.size)(h:At C_Pin w H a.d e)(m:At C_Arc w H a.c f)(o:At cJ w H a.g g):
 Calls prog 186 [.agg #[.string a.f,.i a.b,e,f,g,.i a.h,.i a.i]].toArray w (Cf (.i d) w):=by
 unfold Ug at b;refine AE func186 z ntmps186 (Rc 2 (Ef z (AS z z) ?_));rintro _ _ ⟨_,rfl,_,_,c,i⟩;have t:=c.size;refine Ro 5 (Fl Eg Gy i ?_);refine Cs b c Yu (fun _ j=>(rJ j (by omega) (h.oj c):)) ?_;rintro _ b _ _ ⟨k,_⟩;exact GQ b k
def Zk(n:Nat)(a0:Int)(a1:Int)(a2:Int):Option Bool:=(Ld n a0 a1 a2).bind fun a=>some (!a)
theorem zM{b c d:Int}{e:Bool}{f g:Nat}(a:Zk n b c d=some e)(h:BO w f [.i c] 2)(i:BO w g [.i d] 2):
 Calls prog 160 [.i b,.p f,.p g].toArray w (Cf (.bool e) w):=by
 have H:=AU.refl w;have:=BO.lt h;have:=BO.lt i;unfold Zk at a;refine AE func160 z ntmps160 (Rc 8 (Yl z (Ea z AR h z) (Yl z (Ea z AR i z) ?_)));refine Cs a H IS (fun _=>Tu) ?_;rintro _ a _ _ ⟨j,_⟩;exact GQ a j
def IC(n:Nat)(a0:List Int)(a1c0:Int)(a1c1:Int)(k0:Int->Option Int):Nat->Int->Option Int
 |0,_=>none
 |m+1,a=>cond (decide (a<(a0.length:Int))) ((AL a0 a).bind fun b=>(Zk n b a1c0 a1c1).bind fun c=>cond c (some a) (IC n a0 a1c0 a1c1 k0 m (wrap .i64 (a+1)))) (k0 a)
def aK(n:Nat)(a0:List Int)(a1c0:Int)(a1c1:Int):Option Int:=IC n a0 a1c0 a1c1 (fun a=>some (-1)) n 0
theorem yC{f:List Int}{j k l:Int}{m:Value}{o p:Nat}(a:aK n f j k=some l)(v:H<=w.heap.size)(q:At cJ w H f m)(g:BO w o [.i j] 2)(h:BO w p [.i k] 2):
 Calls prog 173 [m,.func (.func 160) #[] [.p o,.p p].toArray].toArray w (Cf (.i l) w):=by
 have s:=AU.refl w;have:=BO.lt g;have:=BO.lt h;unfold aK at a;refine AE func173 z ntmps173 (Rc 9 (Yl z (HK z Ak (q.oj s)) (Ro 4 ?_)));refine WC.loopD (fun c i wl=>∃d:Int,Kn 19 [(0,m),(1,.func (.func 160) #[] [.p o,.p p].toArray),(7,.i ((f.length:Int))),(8,.i d)] i∧AU w wl∧IC n f j k (fun d=>(some (-1))) c d=some l) n ?_ ?_
 ·intro i e;exact⟨0,e.sub z,AU.refl _,a⟩
 ·rintro c i _ ⟨d,e,b,a⟩;refine EK e ?_;rcases c with _|c;exact EI a;rw [IC.eq_2]at a;have y:=b.size;have⟨g,h⟩:=Di g h b;refine Rc 6 (Wf a b ?_);intro a;refine Rc 15 (Il a (q.oj b) Ak Bb AR ?_);rintro _ a _;have⟨_,t,a⟩:=AO a;refine Ef z (Gx z kU z z (zM t g h:)) ?_;rintro _ _ ⟨rfl,r⟩;have⟨u,_⟩:=Et b r;refine Ro 2 (Wt a u ?_);intro a;refine Rc 8 ?_;intro i e;exact⟨c,nr,(wrap .i64 (d+1)),e.sub z,(AU.trans b r),a⟩
def Zp(n:Nat)(a0:List Int)(a1c0:Int)(a1c1:Int):Option Bool:=(aK n a0 a1c0 a1c1).bind fun a=>some (decide (a>=0))
theorem yH{b:List Int}{c d:Int}{e:Bool}{f:Value}{g h:Nat}(a:Zp n b c d=some e)(p:H<=w.heap.size)(l:At cJ w H b f)(i:BO w g [.i c] 2)(j:BO w h [.i d] 2):
 Calls prog 156 [f,.func (.func 160) #[] [.p g,.p h].toArray].toArray w (Cf (.bool e) w):=by
 have k:=AU.refl w;have:=BO.lt i;have:=BO.lt j;unfold Zp at a;refine AE func156 z ntmps156 (Rc 9 (Cs a k bW (fun _ m=>(yC m (by omega) (l.oj k) i j:)) ?_));rintro _ a _ _ ⟨o,_⟩;exact GQ a o
def Pz(n:Nat)(a0:List Int)(a1:Int)(a2:Int):Option Bool:=(Zp n a0 a1 a2).bind fun a=>some (!a)
theorem Xg{c:List Int}{d e:Int}{f:Bool}{g:Value}(a:Pz n c d e=some f)(p:H<=w.heap.size)(k:At cJ w H c g):
 Calls prog 132 [g,.i d,.i e].toArray w (Cf (.bool f) w):=by
 unfold Pz at a;refine AE func132 z ntmps132 (Rc 2 (Ef z (AS z z) ?_));rintro _ _ ⟨_,rfl,_,_,h,b⟩;have u:=h.size;refine Ef z (AS z z) ?_;rintro _ _ ⟨_,rfl,_,_,i,l⟩;have⟨j,_⟩:=Et h i;have b:=b.ext i;refine Ro 6 (Yl z (HQ z z z) ?_);refine Cs a j Xz (fun _ m=>(yH m (by omega) (k.oj j) b l:)) ?_;rintro _ a _ _ ⟨o,_⟩;exact GQ a o
def RM(n:Nat)(a0:List Int):Option Int:=some ((a0.length:Int))
theorem XZ{a:List Int}{b:Int}{c:Value}(d:RM n a=some b)(g:H<=w.heap.size)(f:At cJ w H a c):
 Calls prog 91 [c].toArray w (Cf (.i b) w):=by
 have e:=AU.refl w;unfold RM at d;exact AE func91 z ntmps91 (Rc 8 (Yl z (HK z Ak (f.oj e)) (GQ d e)))
def Li(a0:List Int)(k0:Int->Option Bool):Nat->Int->Option Bool
 |0,_=>none
 |m+1,a=>cond (decide (a<(a0.length:Int))) ((AL a0 (wrap .i64 (a-1))).bind fun c=>(AL a0 a).bind fun b=>cond (decide (c>=b)) (some false) (Li a0 k0 m (wrap .i64 (a+1)))) (k0 a)
def Xx(n:Nat)(a0:List Int):Option Bool:=Li a0 (fun a=>some true) n 1
theorem zH{g:List Int}{h:Bool}{i:Value}(a:Xx n g=some h)(m:H<=w.heap.size)(j:At cJ w H g i):
 Calls prog 225 [i].toArray w (Cf (.bool h) w):=by
 unfold Xx at a;refine AE func225 z ntmps225 (Rc 12 (WC.loopD (fun c f wl=>∃d:Int,Kn 20 [(0,i),(3,.i d)] f∧AU w wl∧Li g (fun d=>(some true)) c d=some h) n ?_ ?_))
 ·intro f e;exact⟨1,e.sub z,AU.refl _,a⟩
 ·rintro c f _ ⟨d,e,b,a⟩;refine EK e ?_;rcases c with _|c;exact EI a;rw [Li.eq_2]at a;have p:=b.size;refine Rc 5 (Yl z (HK z Ak (j.oj b)) (Ro 3 (Wf a b ?_)));intro a;refine Rc 5 (DH Tryz.hm (Qr 3 (Qz a (j.oj b) Ak Bb AR ?_)));rintro _ a _;refine Qr 2 (Qz a (j.oj b) Ak Bb AR ?_);rintro _ a _;refine Qr 1 ?_;refine QL.done fun s k=>?_;have⟨l,_⟩:=Et b k;refine Re 1 (Wt a l ?_);intro a;refine Rc 9 ?_;intro f e;exact⟨c,nr,(wrap .i64 (d+1)),e.sub z,(AU.trans b k),a⟩
def Xl(n:Nat)(a0:List Int):Option Bool:=(RM n a0).bind fun e=>(Ld n e 1 4).bind fun f=>(cond f ((Pz n a0 0 100000).bind fun a=>some a) (some false)).bind fun d=>(cond d ((Xx n a0).bind fun b=>some b) (some false)).bind fun c=>some c
theorem qX{f:List Int}{g:Bool}{h:Value}(a:Xl n f=some g)(s:H<=w.heap.size)(c:At cJ w H f h):
 Calls prog 221 [h].toArray w (Cf (.bool g) w):=by
 have i:=AU.refl w;unfold Xl at a;refine AE func221 z ntmps221 (Rc 8 (Cs a i Sx (fun _ b=>(XZ b (by omega) (c.oj i):)) ?_));rintro _ a _ _ ⟨j,_⟩;refine Cs a j IS (fun _=>Tu) ?_;rintro _ a _ _ ⟨d,_⟩;refine Ro 1 (JD 3 [0] 9 6 a ?_ ?_)
 ·intro k a;refine Ro 1 (Cs a d QM (fun _ b=>(Xg b (by omega) (c.oj d):)) ?_);rintro _ a _ l ⟨_,_⟩;cases CF a;exact Ro 1 (Gj l)
 intro k a;intro I m;have⟨e,_⟩:=Et d m;refine Ro 1 (JD 3 [] 13 10 a ?_ ?_)
 ·intro o a;refine Ro 1 (Cs a e lN (fun _ b=>(zH b (by omega) (c.oj e):)) ?_);rintro _ a _ p ⟨_,_⟩;cases CF a;exact Ro 1 (Gj p)
 intro o a;intro O q;have⟨r,_⟩:=Et e q;exact GQ a r
def bD(n:Nat)(a0:Bm):Option Bool:=(Xl n a0.d).bind fun a=>(cond a ((Xl n a0.c).bind fun d=>some d) (some false)).bind fun b=>(cond (b&&((((a0.b.length:Int))==(wrap .i64 (((a0.d.length:Int))*((a0.c.length:Int))))))) ((Pz n a0.b (-1000000) 1000000).bind fun e=>some e) (some false)).bind fun c=>some c
theorem AaI{c:Bm}{h:Bool}{i j k:Value}(a:bD n c=some h)(y:H<=w.heap.size)(l:At cJ w H c.d i)(m:At cJ w H c.c j)(o:At cJ w H c.b k):
 Calls prog 213 [.agg #[i,j,k]].toArray w (Cf (.bool h) w):=by
 unfold bD at a;refine AE func213 z ntmps213 (Rc 2 (Ef z (AS z z) ?_));rintro _ _ ⟨_,rfl,_,_,f,b⟩;have E:=f.size;refine Ro 5 (Fl LG Bn b ?_);refine Cs a f Zy (fun _ e=>(qX e (by omega) (l.oj f):)) ?_;rintro _ a _ r ⟨g,_⟩;have b:=b.ext r;refine Ro 1 (JD 4 [1] 10 6 a ?_ ?_)
 ·intro s a;refine Fl Ir Bn b ?_;refine Cs a g Zy (fun _ e=>(qX e (by omega) (m.oj g):)) ?_;rintro _ a _ p ⟨_,_⟩;have b:=b.ext p;cases CF a;exact Ro 1 (Gj p)
 intro s a;intro N q;have⟨d,_⟩:=Et g q;have b:=b.ext q;refine Ro 1 (Oz 12 [1] 23 11 ((((c.b.length:Int))==(wrap .i64 (((c.d.length:Int))*((c.c.length:Int)))))) z ?_ ?_)
 ·exact Gz Gc Bn b Ak (o.oj d) (Gz LG Bn b Ak (l.oj d) (Gz Ir Bn b Ak (m.oj d) (Ro 3 (Fk))))
 refine Ro 1 (JD 4 [] 28 24 a ?_ ?_)
 ·intro t a;refine Fl Gc Bn b ?_;refine Cs a d QM (fun _ e=>(Xg e (by omega) (o.oj d):)) ?_;rintro _ a _ u ⟨_,_⟩;cases CF a;exact Ro 1 (Gj u)
 intro t a;intro T v;have⟨x,_⟩:=Et d v;exact GQ a x
def Wz(n:Nat)(a0:Bm)(a1:Bool):Option Bool:=(bD n a0).bind fun b=>(cond (!b) (some true) ((cond a1 ((cN n a0.b).bind fun c=>some (decide (c<0))) (some false)).bind fun a=>some a)).bind fun a=>some a
theorem yM{d:Bm}{h i:Bool}{j k l:Value}{m:Nat}(a:Wz n d h=some i)(A:H<=w.heap.size)(q:At cJ w H d.d j)(r:At cJ w H d.c k)(o:At cJ w H d.b l)(b:BO w m [.bool h] 4):
 Calls prog 212 [.agg #[j,k,l],.p m].toArray w (Cf (.bool i) w):=by
 have:=BO.lt b;unfold Wz at a;refine AE func212 z ntmps212 (Rc 2 (Ef z (AS z z) ?_));rintro _ _ ⟨_,rfl,_,_,c,e⟩;have F:=c.size;have b:=b.ext c;refine Ro 5 (Yl z (Ci z Kl e HE) ?_);refine Cs a c nF (fun _ g=>(AaI g (by omega) (q.oj c) (r.oj c) (o.oj c):)) ?_;rintro _ a _ s ⟨f,_⟩;have⟨b,e⟩:=Di b e s;refine Ro 2 (PI 8 [] 15 7 a ?_ ?_)
 ·intro t a;refine Yl z (Ea z Gi b z) (Ro 1 (JD 5 [7] 14 9 a ?_ ?_))
  ·intro u a;refine Fl Gc Bn e ?_;refine Cs a f kS (fun _ g=>(xC g (by omega) (o.oj f):)) ?_;rintro _ a _ v ⟨_,_⟩;cases CF a;exact Ro 1 (Ro 1 (Gj v))
  intro u a;intro O p;have⟨_,_⟩:=Et f p;cases CF a;exact Ro 1 (Gj p)
 intro t a;intro R x;have⟨y,_⟩:=Et f x;exact GQ a y
def Jt(n:Nat)(a0:List Bm)(a1c0:Bool)(k0:Int->Option Int):Nat->Int->Option Int
 |0,_=>none
 |m+1,a=>cond (decide (a<(a0.length:Int))) ((AL a0 a).bind fun c=>(Wz n c a1c0).bind fun b=>cond b (some a) (Jt n a0 a1c0 k0 m (wrap .i64 (a+1)))) (k0 a)
def eD(n:Nat)(a0:List Bm)(a1c0:Bool):Option Int:=Jt n a0 a1c0 (fun a=>some (-1)) n 0
theorem yP{f:List Bm}{i:Bool}{j:Int}{k:Value}{l:Nat}(a:eD n f i=some j)(C:H<=w.heap.size)(m:At C_Table w H f k)(g:BO w l [.bool i] 4):
 Calls prog 220 [k,.func (.func 212) #[] [.p l].toArray].toArray w (Cf (.i j) w):=by
 have p:=AU.refl w;have:=BO.lt g;unfold eD at a;refine AE func220 z ntmps220 (Rc 9 (Yl z (HK z Qk (m.oj p)) (Ro 4 ?_)));refine WC.loopD (fun c h wl=>∃d:Int,Kn 19 [(0,k),(1,.func (.func 212) #[] [.p l].toArray),(7,.i ((f.length:Int))),(8,.i d)] h∧AU w wl∧Jt n f i (fun d=>(some (-1))) c d=some j) n ?_ ?_
 ·intro h e;exact⟨0,e.sub z,AU.refl _,a⟩
 ·rintro c h _ ⟨d,e,b,a⟩;refine EK e ?_;rcases c with _|c;exact EI a;rw [Jt.eq_2]at a;have E:=b.size;have g:=g.ext b;refine Rc 6 (Wf a b ?_);intro a;refine Rc 15 (Ix a (m.oj b) Qk HE ?_);rintro _ _ a _ ⟨_,_,_,rfl,_,q,r⟩;obtain⟨s,t,u,rfl,v,x,y⟩:=HS q;refine Yl z (FT (us:=[s,t,u]) z Kl r HE) ?_;have⟨_,A,a⟩:=AO a;refine Ef z (Gx z nZ z z (yM A (by omega) v x y g:)) ?_;rintro _ _ ⟨rfl,o⟩;have⟨B,_⟩:=Et b o;refine Ro 2 (Wt a B ?_);intro a;refine Rc 8 ?_;intro h e;exact⟨c,nr,(wrap .i64 (d+1)),e.sub z,(AU.trans b o),a⟩
def fZ(n:Nat)(a0:List Bm)(a1c0:Bool):Option Bool:=(eD n a0 a1c0).bind fun a=>some (decide (a>=0))
theorem AcC{b:List Bm}{c d:Bool}{e:Value}{f:Nat}(a:fZ n b c=some d)(l:H<=w.heap.size)(i:At C_Table w H b e)(g:BO w f [.bool c] 4):
 Calls prog 211 [e,.func (.func 212) #[] [.p f].toArray].toArray w (Cf (.bool d) w):=by
 have h:=AU.refl w;have:=BO.lt g;unfold fZ at a;refine AE func211 z ntmps211 (Rc 9 (Cs a h jZ (fun _ j=>(yP j (by omega) (i.oj h) g:)) ?_));rintro _ a _ p ⟨k,_⟩;exact GQ a k
def VF(n:Nat)(a0:List Bm)(a1:Bool):Option Bool:=(cond (((a0.length:Int))==2) ((fZ n a0 a1).bind fun b=>some (!b)) (some false)).bind fun a=>some a
theorem nH{c:List Bm}{d e:Bool}{f:Value}(a:VF n c d=some e)(o:H<=w.heap.size)(g:At C_Table w H c f):
 Calls prog 201 [f,.bool d].toArray w (Cf (.bool e) w):=by
 unfold VF at a;refine AE func201 z ntmps201 (Rc 2 (Ef z (AS z z) ?_));rintro _ _ ⟨_,rfl,_,_,b,h⟩;have t:=b.size;refine Ro 6 (Yl z (HK z Qk (g.oj b)) (Ro 2 (JD 5 [] 13 8 a ?_ ?_)))
 ·intro i a;refine Ro 1 (Yl z (HQ z z z) ?_);refine Cs a b nT (fun _ j=>(AcC j (by omega) (g.oj b) h:)) ?_;rintro _ a _ k ⟨_,_⟩;cases CF a;exact Ro 1 (Ro 1 (Gj k))
 intro i a;intro A l;have⟨m,_⟩:=Et b l;exact GQ a m
def Xs(n:Nat)(a0:DZ):Option Bool:=some a0.d
theorem AbL{a:DZ}{b:Bool}(c:Xs n a=some b):
 Calls prog 216 [.agg #[.string a.f,.i a.b,.i a.c,.bool a.d]].toArray w (Cf (.bool b) w):=by
 unfold Xs at c;refine AE func216 z ntmps216 (Rc 2 (Ef z (AS z z) ?_));rintro _ _ ⟨_,rfl,_,i,d,e⟩;have H:=d.size;exact Ro 5 (Fl Hg Gi e (GQ c d))
def KH(n:Nat)(a0:List DZ)(k0:Int->Option Int):Nat->Int->Option Int
 |0,_=>none
 |m+1,a=>cond (decide (a<(a0.length:Int))) ((AL a0 a).bind fun c=>(Xs n c).bind fun b=>cond b (some a) (KH n a0 k0 m (wrap .i64 (a+1)))) (k0 a)
def fO(n:Nat)(a0:List DZ):Option Int:=KH n a0 (fun a=>some (-1)) n 0
theorem AaP{f:List DZ}{i:Int}{j:Value}(a:fO n f=some i)(s:H<=w.heap.size)(k:At C_Pin w H f j):
 Calls prog 215 [j,.func (.func 216) #[] #[]].toArray w (Cf (.i i) w):=by
 have m:=AU.refl w;unfold fO at a;refine AE func215 z ntmps215 (Rc 9 (Yl z (HK z GC (k.oj m)) (Ro 4 ?_)));refine WC.loopD (fun b g wl=>∃c:Int,Kn 19 [(0,j),(1,.func (.func 216) #[] #[]),(7,.i ((f.length:Int))),(8,.i c)] g∧AU w wl∧KH n f (fun c=>(some (-1))) b c=some i) n ?_ ?_
 ·intro g d;exact⟨0,d.sub z,AU.refl _,a⟩
 ·rintro b g _ ⟨c,d,e,a⟩;refine EK d ?_;rcases b with _|b;exact EI a;rw [KH.eq_2]at a;have u:=e.size;refine Rc 6 (Wf a e ?_);intro a;refine Rc 15 (Ix a (k.oj e) GC Gq ?_);rintro h _ a _ ⟨_,_,_,rfl,_,o,p⟩;obtain rfl:=Fg o;refine Yl z (FT (us:=[.string h.f,.i h.b,.i h.c,.bool h.d]) z Ta p Gq) ?_;have⟨_,q,a⟩:=AO a;refine Ef z (Gx z lA z z (AbL q:)) ?_;rintro _ _ ⟨rfl,l⟩;have⟨r,_⟩:=Et e l;refine Ro 2 (Wt a r ?_);intro a;refine Rc 8 ?_;intro g d;exact⟨b,nr,(wrap .i64 (c+1)),d.sub z,(AU.trans e l),a⟩
def Vh(n:Nat)(a0:BL):Option Int:=(fO n a0.d).bind fun a=>some a
theorem yJ{a:BL}{d:Int}{e f g:Value}(b:Vh n a=some d)(l:H<=w.heap.size)(h:At C_Pin w H a.d e)(m:At C_Arc w H a.c f)(o:At cJ w H a.g g):
 Calls prog 202 [.agg #[.string a.f,.i a.b,e,f,g,.i a.h,.i a.i]].toArray w (Cf (.i d) w):=by
 unfold Vh at b;refine AE func202 z ntmps202 (Rc 2 (Ef z (AS z z) ?_));rintro _ _ ⟨_,rfl,_,_,c,i⟩;have t:=c.size;refine Ro 5 (Fl Eg Gy i ?_);refine Cs b c lV (fun _ j=>(AaP j (by omega) (h.oj c):)) ?_;rintro _ b _ _ ⟨k,_⟩;exact GQ b k
def aO(n:Nat)(a0:BL)(a1:Int):Option Bool:=(Ug n a0).bind fun b=>(Ld n a1 0 (wrap .i64 (b-1))).bind fun a=>some a
theorem uF{a:BL}{d:Int}{e:Bool}{f g h:Value}(b:aO n a d=some e)(q:H<=w.heap.size)(i:At C_Pin w H a.d f)(j:At C_Arc w H a.c g)(k:At cJ w H a.g h):
 Calls prog 203 [.agg #[.string a.f,.i a.b,f,g,h,.i a.h,.i a.i],.i d].toArray w (Cf (.bool e) w):=by
 unfold aO at b;refine AE func203 z ntmps203 (Rc 2 (Ef z (AS z z) ?_));rintro _ _ ⟨_,rfl,_,_,c,l⟩;have v:=c.size;refine Ro 6 (Yl z (Ci z Db l By) ?_);refine Cs b c Vv (fun _ m=>(lZ m (by omega) (i.oj c) (j.oj c) (k.oj c):)) ?_;rintro _ b _ _ ⟨o,_⟩;refine Ro 1 (Cs b o IS (fun _=>Tu) ?_);rintro _ b _ _ ⟨p,_⟩;exact GQ b p
def bZ(n:Nat)(a0:BL)(a1:CJ):Option Bool:=(TR n a1.b).bind fun j=>cond j ((cond (((a1.g==0))&&((((a1.f.length:Int))==0))) ((VF n a1.h false).bind fun b=>some b) (some false)).bind fun f=>(cond f ((Vh n a0).bind fun c=>some ((a1.d==c))) (some false)).bind fun d=>(cond (d&&(decide (a1.d>=0))) ((aO n a0 a1.c).bind fun l=>some l) (some false)).bind fun s=>some ((s&&((a1.c !=a1.d))))) ((VF n a1.h true).bind fun g=>(cond (!g) (some true) ((VF n a1.f true).bind fun o=>some (!o))).bind fun h=>(cond h (some true) ((Ug n a0).bind fun p=>some ((a1.c !=p)))).bind fun t=>(cond t (some true) ((aO n a0 a1.d).bind fun i=>some (!i))).bind fun r=>cond r (some false) (cond (a1.b==1) ((AL a0.d a1.d).bind fun k=>(cond (!k.d) ((Ld n a1.g 1 3).bind fun u=>some u) (some false)).bind fun e=>some e) (cond (a1.b==2) (cond (a1.b==2) ((AL a0.d a1.d).bind fun v=>some ((v.d&&((a1.g==0))))) (some false)) (cond (a1.b==3) ((AL a0.d a1.d).bind fun a=>some ((a.d&&((a1.g==0))))) (some false)))))
theorem AaF{h:BL}{f:CJ}{l:Bool}{m o p q r:Value}(a:bZ n h f=some l)(e:H<=w.heap.size)(i:At C_Pin w H h.d m)(j:At C_Arc w H h.c o)(k:At cJ w H h.g p)(s:At C_Table w H f.h q)(t:At C_Table w H f.f r):
 Calls prog 184 [.agg #[.string h.f,.i h.b,m,o,p,.i h.h,.i h.i],.agg #[.i f.b,.i f.d,.i f.c,.i f.g,q,r]].toArray w (Cf (.bool l) w):=by
 unfold bZ at a;refine AE func184 z ntmps184 (Rc 2 (Ef z (AS z z) ?_));rintro _ _ ⟨_,rfl,_,_,u,c⟩;have f0:=u.size;refine Ef z (AS z z) ?_;rintro _ _ ⟨_,rfl,_,_,v,b⟩;have⟨C,_⟩:=Et u v;have c:=c.ext v;refine Ro 6 (Fl EX AR b ?_);refine Cs a C Ys (fun _=>mI) ?_;rintro _ a _ D ⟨d,_⟩;have⟨c,b⟩:=Di c b D;refine Ro 2 (Wc z a ?_ ?_)
 ·intro a;refine Rc 1 (DH Tryz.hm (Fq IB AR b (Qr 2 (aX 5 [2,3] 16 11 ((((f.f.length:Int))==0)) z ?_ ?_))))
  ·exact Tq Nr KP b Qk (t.oj d) (Qr 2 LD)
  refine Qr 1 (LC 4 [2,3] 21 17 a ?_ ?_)
  ·intro E a;refine Fq KK KP b ?_;have⟨_,F,a⟩:=AO a;refine Ql z (MT z VZ fun w' hw'=>(nH F (Ar (by omega) (hw').size) (s.oh e (AU.trans d hw')):)) ?_;cases CF a;exact Qr 1 LD
  intro E a;refine Qr 1 (LC 6 [2,3] 28 22 a ?_ ?_)
  ·intro G a;refine Fq GJ AR b (Qy z (Ci z Db c By) ?_);have⟨_,I,a⟩:=AO a;refine Ql z (MT z jT fun w' hw'=>(yJ I (Ar (by omega) (hw').size) (i.oh e (AU.trans d hw')) (j.oh e (AU.trans d hw')) (k.oh e (AU.trans d hw')):)) ?_;refine Qr 1 ?_;cases CF a;exact Qr 1 LD
  intro G a;refine Qr 1 (aX 4 [2,3] 33 29 (decide (f.d>=0)) z ?_ ?_)
  ·exact Fq GJ AR b (Qr 2 LD)
  refine Qr 1 (LC 5 [3] 39 34 a ?_ ?_)
  ·intro J a;refine Qy z (Ci z Db c By) (Fq GV AR b ?_);have⟨_,K,a⟩:=AO a;refine Ql z (MT z bC fun w' hw'=>(uF K (Ar (by omega) (hw').size) (i.oh e (AU.trans d hw')) (j.oh e (AU.trans d hw')) (k.oh e (AU.trans d hw')):)) ?_;cases CF a;exact Qr 1 LD
  intro J a;refine Qr 1 (aX 6 [] 46 40 ((f.c !=f.d)) z ?_ ?_)
  ·exact Fq GV AR b (Fq GJ AR b (Qr 2 LD))
  refine Qr 1 ?_;refine QL.done fun r0 x=>?_;have⟨L,_⟩:=Et d x;have⟨c,b⟩:=Di c b x;exact UO a L
 ·intro a;refine Rc 4 (DH Tryz.hm (Fq KK KP b ?_));have⟨_,M,a⟩:=AO a;refine Ql z (MT z VZ fun w' hw'=>(nH M (Ar (by omega) (hw').size) (s.oh e (AU.trans d hw')):)) ?_;refine Qr 2 (OC 5 [2,3] 56 51 a ?_ ?_)
  ·intro N a;refine Fq Nr KP b ?_;have⟨_,O,a⟩:=AO a;refine Ql z (MT z VZ fun w' hw'=>(nH O (Ar (by omega) (hw').size) (t.oh e (AU.trans d hw')):)) ?_;refine Qr 1 ?_;cases CF a;exact Qr 1 LD
  intro N a;refine Qr 1 (OC 6 [2,3] 63 57 a ?_ ?_)
  ·intro P a;refine Fq GV AR b (Qy z (Ci z Db c By) ?_);have⟨_,Q,a⟩:=AO a;refine Ql z (MT z Vv fun w' hw'=>(lZ Q (Ar (by omega) (hw').size) (i.oh e (AU.trans d hw')) (j.oh e (AU.trans d hw')) (k.oh e (AU.trans d hw')):)) ?_;refine Qr 1 ?_;cases CF a;exact Qr 1 LD
  intro P a;refine Qr 1 (OC 6 [2,3] 70 64 a ?_ ?_)
  ·intro R a;refine Qy z (Ci z Db c By) (Fq GJ AR b ?_);have⟨_,S,a⟩:=AO a;refine Ql z (MT z bC fun w' hw'=>(uF S (Ar (by omega) (hw').size) (i.oh e (AU.trans d hw')) (j.oh e (AU.trans d hw')) (k.oh e (AU.trans d hw')):)) ?_;refine Qr 1 ?_;cases CF a;exact Qr 1 LD
  intro R a;refine QL.done fun x0 y=>?_;have⟨g,_⟩:=Et d y;have⟨c,b⟩:=Di c b y;refine Re 1 (Wt a g ?_);intro a;refine Rc 5 (Fl EX AR b (Ro 9 (Wc z a ?_ ?_)))
  ·intro a;refine Rc 2 (Fl Eg Gy c (Fl GJ AR b (Ix a (i.oj g) GC Gq ?_)));rintro _ _ a _ ⟨_,_,_,rfl,_,T,U⟩;obtain rfl:=Fg T;refine Fc Hg Gi U (Ro 2 (JD 4 [] 87 83 a ?_ ?_))
   ·intro V a;refine Fl IB AR b ?_;refine Cs a g IS (fun _=>Tu) ?_;rintro _ a _ A ⟨_,_⟩;have⟨c,b⟩:=Di c b A;cases CF a;exact Ro 1 (Gj A)
   intro V a;intro J0 B;have⟨W,_⟩:=Et g B;have⟨c,b⟩:=Di c b B;exact GQ a W
  ·intro a;refine Rc 7 (Wc z a ?_ ?_)
   ·intro a;refine Rc 2 (Wf a g ?_);intro a;refine Rc 2 (Fl Eg Gy c (Fl GJ AR b (Ix a (i.oj g) GC Gq ?_)));rintro _ _ a _ ⟨_,_,_,rfl,_,X,Y⟩;obtain rfl:=Fg X;refine Fc Hg Gi Y (Ro 1 (Oz 4 [] 102 98 ((f.g==0)) z ?_ ?_))
    ·exact Fl IB AR b (Ro 2 (Fk))
    exact GQ a g
   ·intro a;refine Rc 5 (Wf a g ?_);intro a;refine Rc 2 (Fl Eg Gy c (Fl GJ AR b (Ix a (i.oj g) GC Gq ?_)));rintro _ _ a _ ⟨_,_,_,rfl,_,Z,a0⟩;obtain rfl:=Fg Z;refine Fc Hg Gi a0 (Ro 1 (Oz 4 [] 102 98 ((f.g==0)) z ?_ ?_))
    ·exact Fl IB AR b (Ro 2 (Fk))
    exact GQ a g
def YC(n:Nat)(a0:CJ)(a1:CJ):Option Bool:=some ((((((a0.b==a1.b))&&((a0.d==a1.d))))&&((a0.c==a1.c))))
theorem vX{a b:CJ}{f:Bool}{g h i j:Value}{k:Nat}(l:YC n a b=some f)(m:H<=w.heap.size)(o:At C_Table w H a.h g)(p:At C_Table w H a.f h)(c:BO w k [.i b.b,.i b.d,.i b.c,.i b.g,i,j] 73)(q:At C_Table w H b.h i)(r:At C_Table w H b.f j):
 Calls prog 185 [.agg #[.i a.b,.i a.d,.i a.c,.i a.g,g,h],.p k].toArray w (Cf (.bool f) w):=by
 have:=BO.lt c;unfold YC at l;refine AE func185 z ntmps185 (Rc 2 (Ef z (AS z z) ?_));rintro _ _ ⟨_,rfl,_,_,d,e⟩;have x:=d.size;have c:=c.ext d;refine Ro 5 (Fl EX AR e (Fl EX AR c (Ro 2 (Oz 6 [1,2] 15 9 ((a.d==b.d)) z ?_ ?_))))
 ·exact Fl GJ AR e (Fl GJ AR c (Ro 2 (Fk)))
 refine Ro 1 (Oz 6 [] 22 16 ((a.c==b.c)) z ?_ ?_)
 ·exact Fl GV AR e (Fl GV AR c (Ro 2 (Fk)))
 exact GQ l d
def KR(n:Nat)(a0:List CJ)(a1c0:CJ)(k0:Int->Option Int):Nat->Int->Option Int
 |0,_=>none
 |m+1,a=>cond (decide (a<(a0.length:Int))) ((AL a0 a).bind fun c=>(YC n c a1c0).bind fun b=>cond b (some a) (KR n a0 a1c0 k0 m (wrap .i64 (a+1)))) (k0 a)
def gA(n:Nat)(a0:List CJ)(a1c0:CJ):Option Int:=KR n a0 a1c0 (fun a=>some (-1)) n 0
theorem AaA{g:List CJ}{b:CJ}{k:Int}{l o p:Value}{m:Nat}(a:gA n g b=some k)(F:H<=w.heap.size)(q:At C_Arc w H g l)(h:BO w m [.i b.b,.i b.d,.i b.c,.i b.g,o,p] 73)(s:At C_Table w H b.h o)(t:At C_Table w H b.f p):
 Calls prog 161 [l,.func (.func 185) #[] [.p m].toArray].toArray w (Cf (.i k) w):=by
 have u:=AU.refl w;have:=BO.lt h;unfold gA at a;refine AE func161 z ntmps161 (Rc 9 (Yl z (HK z EB (q.oj u)) (Ro 4 ?_)));refine WC.loopD (fun d i wl=>∃e:Int,Kn 19 [(0,l),(1,.func (.func 185) #[] [.p m].toArray),(7,.i ((g.length:Int))),(8,.i e)] i∧AU w wl∧KR n g b (fun e=>(some (-1))) d e=some k) n ?_ ?_
 ·intro i f;exact⟨0,f.sub z,AU.refl _,a⟩
 ·rintro d i _ ⟨e,f,c,a⟩;refine EK f ?_;rcases d with _|d;exact EI a;rw [KR.eq_2]at a;have I:=c.size;have h:=h.ext c;refine Rc 6 (Wf a c ?_);intro a;refine Rc 15 (Ix a (q.oj c) EB Ct ?_);rintro j _ a _ ⟨_,_,_,rfl,_,v,x⟩;obtain⟨y,A,rfl,B,C⟩:=Cx v;refine Yl z (FT (us:=[.i j.b,.i j.d,.i j.c,.i j.g,y,A]) z Gv x Ct) ?_;have⟨_,D,a⟩:=AO a;refine Ef z (Gx z nA z z (vX D (by omega) B C h (s.oj c) (t.oj c):)) ?_;rintro _ _ ⟨rfl,r⟩;have⟨E,_⟩:=Et c r;refine Ro 2 (Wt a E ?_);intro a;refine Rc 8 ?_;intro i f;exact⟨d,nr,(wrap .i64 (e+1)),f.sub z,(AU.trans c r),a⟩
def gJ(n:Nat)(a0:List CJ)(a1c0:CJ):Option Bool:=(gA n a0 a1c0).bind fun a=>some (decide (a>=0))
theorem xR{d:List CJ}{a:CJ}{e:Bool}{f g h:Value}{i:Nat}(b:gJ n d a=some e)(q:H<=w.heap.size)(k:At C_Arc w H d f)(j:BO w i [.i a.b,.i a.d,.i a.c,.i a.g,g,h] 73)(l:At C_Table w H a.h g)(m:At C_Table w H a.f h):
 Calls prog 140 [f,.func (.func 185) #[] [.p i].toArray].toArray w (Cf (.bool e) w):=by
 have c:=AU.refl w;have:=BO.lt j;unfold gJ at b;refine AE func140 z ntmps140 (Rc 9 (Cs b c YR (fun _ o=>(AaA o (by omega) (k.oj c) j (l.oj c) (m.oj c):)) ?_));rintro _ b _ _ ⟨p,_⟩;exact GQ b p
def Ll(n:Nat)(a0:BL)(k0:Int->Option Bool):Nat->Int->Option Bool
 |0,_=>none
 |m+1,a=>cond (decide (a<(a0.c.length:Int))) ((AL a0.c a).bind fun b=>(bZ n a0 b).bind fun e=>(cond (!e) (some true) ((LQ a0.c 0 a).bind fun f=>(gJ n f b).bind fun d=>some d)).bind fun c=>cond c (some false) (Ll n a0 k0 m (wrap .i64 (a+1)))) (k0 a)
def Zx(n:Nat)(a0:BL):Option Bool:=Ll n a0 (fun a=>some (decide ((a0.c.length:Int)<=8))) n 0
theorem wV{c:BL}{p:Bool}{A q B:Value}(a:Zx n c=some p)(hH:H<=w.heap.size)(E:At C_Pin w H c.d A)(g:At C_Arc w H c.c q)(F:At cJ w H c.g B):
 Calls prog 170 [.agg #[.string c.f,.i c.b,A,q,B,.i c.h,.i c.i]].toArray w (Cf (.bool p) w):=by
 unfold Zx at a;refine AE func170 z ntmps170 (Rc 2 (Ef z (AS z z) ?_));rintro _ G ⟨I,rfl,_,_,r,b⟩;have X:=r.size;refine Ro 6 (Gz Da Fm b EB (g.oj r) (Ro 4 ?_));have⟨J,K,a⟩:=VD a;refine WC.loopD (fun h j wl=>∃k:Int,Kn 30 [(1,.p I),(6,q),(7,.i ((c.c.length:Int))),(8,.i k)] j∧AU G wl∧Ll n c J h k=some p) n ?_ ?_
 ·intro j i;exact⟨0,i.sub z,AU.refl _,a⟩
 ·rintro h j _ ⟨k,i,s,a⟩;refine EK i ?_;rcases h with _|h;exact EI a;rw [Ll.eq_2]at a;have⟨l,_⟩:=Et r s;have b:=b.ext s;refine Rc 6 (Wc z a ?_ ?_)
  ·intro a;refine Rc 7 (Ix a (g.oj l) EB Ct ?_);rintro m _ a _ ⟨_,_,_,rfl,_,L,M⟩;obtain⟨N,O,rfl,d,e⟩:=Cx L;refine Yl z (FT (us:=[.i m.b,.i m.d,.i m.c,.i m.g,N,O]) z Gv M Ct) (Ef z (AZ z HU) ?_);rintro _ _ ⟨_,rfl,_,_,t,f⟩;have⟨P,_⟩:=Et l t;have⟨b,d,e⟩:=FE b d e t;refine Ro 1 (Ef z (DQ z f Ct (AB z (AB z (AB z (AB z (AB (AF.one d) (AB (AF.one e) BC)))))) z) ?_);rintro _ _ ⟨u,f⟩;have⟨o,_⟩:=Eu P u;have⟨b,d,e⟩:=Iw b d e u;refine Ro 4 (Yl z (Ci z Db b By) (Yl z (Ci z Gv f Ct) ?_));refine Cs a o kE (fun _ v=>(AaF v (by omega) (E.oj o) (g.oj o) (F.oj o) d e:)) ?_;rintro _ a _ C ⟨x,_⟩;have⟨b,f,d,e⟩:=Gp b f d e C;refine Ro 2 (PI 7 [1,6,7,8] 24 17 a ?_ ?_)
   ·intro R a;refine Fl Da Fm b (Ro 1 ?_);have⟨_,S,a⟩:=AO a;refine Ye z (Qc (c:=C_Arc) z EB Ct z z (g.oj x) S) ?_;rintro _ T;refine Yl z (HQ z z z) ?_;refine Cs a x aZ (fun _ v=>(xR v (by omega) T f d e:)) ?_;rintro _ a _ D ⟨_,_⟩;have b:=b.ext D;cases CF a;exact Ro 1 (Gj D)
   intro R a;intro v0 y;have⟨U,_⟩:=Et x y;have b:=b.ext y;refine Ro 2 (Wt a U ?_);intro a;refine Rc 8 ?_;intro j i;exact⟨h,nr,(wrap .i64 (k+1)),i.sub z,(AU.trans (AU.trans (Eu (AU.trans s t) u).1 C) y),a⟩
  ·intro a;refine Rc 3 ?_
   subst K
   exact Re 4 (Gz Da Fm b EB (g.oj l) (GQ a l))
def cX(n:Nat)(a0:CJ)(a1:Int):Option Bool:=some ((a0.b==a1))
theorem xF{a:CJ}{d:Int}{e:Bool}{f g:Value}{h:Nat}(i:cX n a d=some e)(k:H<=w.heap.size)(l:At C_Table w H a.h f)(m:At C_Table w H a.f g)(b:BO w h [.i d] 2):
 Calls prog 141 [.agg #[.i a.b,.i a.d,.i a.c,.i a.g,f,g],.p h].toArray w (Cf (.bool e) w):=by
 have:=BO.lt b;unfold cX at i;refine AE func141 z ntmps141 (Rc 2 (Ef z (AS z z) ?_));rintro _ _ ⟨p,rfl,_,_,c,j⟩;have s:=c.size;have b:=b.ext c;exact Ro 5 (Fl EX AR j (Yl z (Ea z AR b z) (GQ i c)))
def KD(n:Nat)(a0:List CJ)(a1c0:Int)(k0:Int->Option Int):Nat->Int->Option Int
 |0,_=>none
 |m+1,a=>cond (decide (a<(a0.length:Int))) ((AL a0 a).bind fun c=>(cX n c a1c0).bind fun b=>cond b (some a) (KD n a0 a1c0 k0 m (wrap .i64 (a+1)))) (k0 a)
def gM(n:Nat)(a0:List CJ)(a1c0:Int):Option Int:=KD n a0 a1c0 (fun a=>some (-1)) n 0
theorem xW{f:List CJ}{j k:Int}{l:Value}{m:Nat}(a:gM n f j=some k)(B:H<=w.heap.size)(o:At C_Arc w H f l)(g:BO w m [.i j] 2):
 Calls prog 161 [l,.func (.func 141) #[] [.p m].toArray].toArray w (Cf (.i k) w):=by
 have q:=AU.refl w;have:=BO.lt g;unfold gM at a;refine AE func161 z ntmps161 (Rc 9 (Yl z (HK z EB (o.oj q)) (Ro 4 ?_)));refine WC.loopD (fun c h wl=>∃d:Int,Kn 19 [(0,l),(1,.func (.func 141) #[] [.p m].toArray),(7,.i ((f.length:Int))),(8,.i d)] h∧AU w wl∧KD n f j (fun d=>(some (-1))) c d=some k) n ?_ ?_
 ·intro h e;exact⟨0,e.sub z,AU.refl _,a⟩
 ·rintro c h _ ⟨d,e,b,a⟩;refine EK e ?_;rcases c with _|c;exact EI a;rw [KD.eq_2]at a;have D:=b.size;have g:=g.ext b;refine Rc 6 (Wf a b ?_);intro a;refine Rc 15 (Ix a (o.oj b) EB Ct ?_);rintro i _ a _ ⟨_,_,_,rfl,_,r,s⟩;obtain⟨t,u,rfl,v,x⟩:=Cx r;refine Yl z (FT (us:=[.i i.b,.i i.d,.i i.c,.i i.g,t,u]) z Gv s Ct) ?_;have⟨_,y,a⟩:=AO a;refine Ef z (Gx z lM z z (xF y (by omega) v x g:)) ?_;rintro _ _ ⟨rfl,p⟩;have⟨A,_⟩:=Et b p;refine Ro 2 (Wt a A ?_);intro a;refine Rc 8 ?_;intro h e;exact⟨c,nr,(wrap .i64 (d+1)),e.sub z,(AU.trans b p),a⟩
def fE(n:Nat)(a0:List CJ)(a1c0:Int):Option Bool:=(gM n a0 a1c0).bind fun a=>some (decide (a>=0))
theorem AaH{b:List CJ}{c:Int}{d:Bool}{e:Value}{f:Nat}(a:fE n b c=some d)(l:H<=w.heap.size)(i:At C_Arc w H b e)(g:BO w f [.i c] 2):
 Calls prog 140 [e,.func (.func 141) #[] [.p f].toArray].toArray w (Cf (.bool d) w):=by
 have h:=AU.refl w;have:=BO.lt g;unfold fE at a;refine AE func140 z ntmps140 (Rc 9 (Cs a h YR (fun _ j=>(xW j (by omega) (i.oj h) g:)) ?_));rintro _ a _ p ⟨k,_⟩;exact GQ a k
def Uf(n:Nat)(a0:BL)(a1:Int):Option Bool:=(fE n a0.c a1).bind fun a=>some a
theorem nO{a:BL}{d:Int}{e:Bool}{f g h:Value}(b:Uf n a d=some e)(q:H<=w.heap.size)(r:At C_Pin w H a.d f)(l:At C_Arc w H a.c g)(s:At cJ w H a.g h):
 Calls prog 101 [.agg #[.string a.f,.i a.b,f,g,h,.i a.h,.i a.i],.i d].toArray w (Cf (.bool e) w):=by
 unfold Uf at b;refine AE func101 z ntmps101 (Rc 2 (Ef z (AS z z) ?_));rintro _ _ ⟨_,rfl,_,_,i,c⟩;have y:=i.size;refine Ef z (AS z z) ?_;rintro _ _ ⟨_,rfl,_,_,j,m⟩;have⟨k,_⟩:=Et i j;have c:=c.ext j;refine Ro 5 (Fl Da Fm c (Yl z (HQ z z z) ?_));refine Cs b k aZ (fun _ o=>(AaH o (by omega) (l.oj k) m:)) ?_;rintro _ b _ _ ⟨p,_⟩;exact GQ b p
def Ig(a0:BL)(k0:Int->Int->Option Bool):Nat->Int->Int->Option Bool
 |0,_,_=>none
 |m+1,b,a=>cond (decide (a<(a0.d.length:Int))) ((AL a0.d a).bind fun c=>cond c.d (Ig a0 k0 m (wrap .i64 (b+1)) (wrap .i64 (a+1))) (Ig a0 k0 m b (wrap .i64 (a+1)))) (k0 b a)
def YG(n:Nat)(a0:BL):Option Bool:=Ig a0 (fun a t=>cond (a0.b==1) ((cond (a==0) ((Ug n a0).bind fun b=>cond (decide (b<0)) none (some ((((a0.g.length:Int))==(Of .i64 1 b))))) (some false)).bind fun p=>(cond p ((Pz n a0.g 0 1).bind fun i=>some i) (some false)).bind fun k=>some k) (cond (a0.b==2) ((cond (((a==1))&&((((a0.g.length:Int))==0))) ((Uf n a0 1).bind fun f=>some (!f)) (some false)).bind fun d=>(cond d ((Uf n a0 2).bind fun o=>(Uf n a0 3).bind fun h=>some ((o !=h))) (some false)).bind fun j=>some j) (cond (a0.b==3) ((cond (((a==1))&&((((a0.g.length:Int))==0))) ((Uf n a0 1).bind fun c=>some c) (some false)).bind fun g=>(cond g ((Uf n a0 2).bind fun r=>some r) (some false)).bind fun s=>(cond s ((Uf n a0 3).bind fun e=>some (!e)) (some false)).bind fun l=>some l) (some false)))) n 0 0
theorem yF{d:BL}{t:Bool}{u y A:Value}(a:YG n d=some t)(hH:H<=w.heap.size)(f:At C_Pin w H d.d u)(g:At C_Arc w H d.c y)(e:At cJ w H d.g A):
 Calls prog 171 [.agg #[.string d.f,.i d.b,u,y,A,.i d.h,.i d.i]].toArray w (Cf (.bool t) w):=by
 unfold YG at a;refine AE func171 z ntmps171 (Rc 2 (Ef z (AS z z) ?_));rintro _ I ⟨J,rfl,_,_,v,b⟩;have k0:=v.size;refine Ro 11 (Gz Eg Gy b GC (f.oj v) (Ro 4 ?_));have⟨K,L,a⟩:=MW a;refine WC.loopD (fun h i wl=>∃j k:Int,Kn 83 [(1,.p J),(3,.i j),(7,u),(8,.i ((d.d.length:Int))),(9,.i k)] i∧AU I wl∧Ig d K h j k=some t) n ?_ ?_
 ·intro i hK;exact⟨0,0,hK.sub z,AU.refl _,a⟩
 ·rintro h i _ ⟨j,k,hK,p,a⟩;refine EK hK ?_;rcases h with _|h;exact EI a;rw [Ig.eq_2]at a;have⟨c,_⟩:=Et v p;have b:=b.ext p;refine Rc 6 (Wc z a ?_ ?_)
  ·intro a;refine Rc 6 (Ix a (f.oj c) GC Gq ?_);rintro q _ a _ ⟨_,_,_,rfl,_,M,N⟩;obtain rfl:=Fg M;refine Yl z (FT (us:=[.string q.f,.i q.b,.i q.c,.bool q.d]) z Ta N Gq) (Ef z (AZ z NR) ?_);rintro _ _ ⟨_,rfl,_,_,r,x⟩;have⟨O,_⟩:=Et c r;have b:=b.ext r;refine Ef z (DQ z x Gq z z) ?_;rintro _ _ ⟨s,x⟩;have⟨_,_⟩:=Eu O s;have b:=b.upd s (by omega);refine Ro 4 (Fl Hg Gi x (Ro 2 (Wc z a ?_ ?_)))
   ·intro a;refine Rc 12 ?_;intro i hK;exact⟨h,nr,(wrap .i64 (j+1)),(wrap .i64 (k+1)),hK.sub z,(Eu (AU.trans p r) s).1,a⟩
   ·intro a;refine Rc 8 ?_;intro i hK;exact⟨h,nr,j,(wrap .i64 (k+1)),hK.sub z,(Eu (AU.trans p r) s).1,a⟩
  ·intro a;refine Rc 3 ?_
   subst L
   refine Re 5 (Fl NA AR b (Ro 9 (Wc z a ?_ ?_)))
   ·intro a;refine Rc 1 (DH Tryz.hm (Qr 3 (LC 8 [1] 32 24 a ?_ ?_)))
    ·intro Q a;refine Tq GI Bn b Ak (e.oj c) (Qy z (Ci z Db b By) ?_);have⟨_,R,a⟩:=AO a;refine Ql z (MT z Vv fun w' hw'=>(lZ R (Ar (by omega) (hw').size) (f.oh hH (AU.trans c hw')) (g.oh hH (AU.trans c hw')) (e.oh hH (AU.trans c hw')):)) ?_;have⟨S,a⟩:=oF a;refine Qy z (TE z z z S) (Qr 1 ?_);cases CF a;exact Qr 1 LD
    intro Q a;refine Qr 1 (LC 4 [] 37 33 a ?_ ?_)
    ·intro T a;refine Fq GI Bn b ?_;have⟨_,U,a⟩:=AO a;refine Ql z (MT z QM fun w' hw'=>(Xg U (Ar (by omega) (hw').size) (e.oh hH (AU.trans c hw')):)) ?_;cases CF a;exact Qr 1 LD
    intro T a;refine Qr 1 ?_;refine QL.done fun C0 B=>?_;have⟨V,_⟩:=Et c B;have b:=b.ext B;exact UO a V
   ·intro a;refine Rc 6 (Wc z a ?_ ?_)
    ·intro a;refine Rc 1 (DH Tryz.hm (Qr 3 (aX 5 [1] 47 42 ((((d.g.length:Int))==0)) z ?_ ?_)))
     ·exact Tq GI Bn b Ak (e.oj c) (Qr 2 LD)
     refine Qr 1 (LC 4 [1] 52 48 a ?_ ?_)
     ·intro W a;refine Qy z (Ci z Db b By) ?_;have⟨_,X,a⟩:=AO a;refine Ql z (MT z Om fun w' hw'=>(nO X (Ar (by omega) (hw').size) (f.oh hH (AU.trans c hw')) (g.oh hH (AU.trans c hw')) (e.oh hH (AU.trans c hw')):)) ?_;refine Qr 1 ?_;cases CF a;exact Qr 1 LD
     intro W a;refine Qr 1 (LC 6 [] 59 53 a ?_ ?_)
     ·intro Y a;refine Qy z (Ci z Db b By) ?_;have⟨_,Z,a⟩:=AO a;refine Ql z (MT z Om fun w' hw'=>(nO Z (Ar (by omega) (hw').size) (f.oh hH (AU.trans c hw')) (g.oh hH (AU.trans c hw')) (e.oh hH (AU.trans c hw')):)) ?_;refine Qy z (Ci z Db b By) ?_;have⟨_,a0,a⟩:=AO a;refine Ql z (MT z Om fun w' hw'=>(nO a0 (Ar (by omega) (hw').size) (f.oh hH (AU.trans c hw')) (g.oh hH (AU.trans c hw')) (e.oh hH (AU.trans c hw')):)) ?_;refine Qy z (Wa z ud4 z z) ?_;cases CF a;exact Qr 1 LD
     intro Y a;refine Qr 1 ?_;refine QL.done fun H0 C=>?_;have⟨b0,_⟩:=Et c C;have b:=b.ext C;exact UO a b0
    ·intro a;refine Rc 6 (Wf a c ?_);intro a;refine Rc 5 (Oz 5 [1] 69 64 ((((d.g.length:Int))==0)) z ?_ ?_)
     ·exact Gz GI Bn b Ak (e.oj c) (Ro 2 (Fk))
     refine Ro 1 (JD 3 [1] 73 70 a ?_ ?_)
     ·intro c0 a;refine Yl z (Ci z Db b By) ?_;refine Cs a c Om (fun _ l=>(nO l (by omega) (f.oj c) (g.oj c) (e.oj c):)) ?_;rintro _ a _ D ⟨_,_⟩;have b:=b.ext D;cases CF a;exact Ro 1 (Gj D)
     intro c0 a;intro N0 E;have⟨m,_⟩:=Et c E;have b:=b.ext E;refine Ro 1 (JD 3 [1] 77 74 a ?_ ?_)
     ·intro d0 a;refine Yl z (Ci z Db b By) ?_;refine Cs a m Om (fun _ l=>(nO l (by omega) (f.oj m) (g.oj m) (e.oj m):)) ?_;rintro _ a _ F ⟨_,_⟩;have b:=b.ext F;cases CF a;exact Ro 1 (Gj F)
     intro d0 a;intro T0 G;have⟨o,_⟩:=Et m G;have b:=b.ext G;refine Ro 1 (JD 4 [] 82 78 a ?_ ?_)
     ·intro e0 a;refine Yl z (Ci z Db b By) ?_;refine Cs a o Om (fun _ l=>(nO l (by omega) (f.oj o) (g.oj o) (e.oj o):)) ?_;rintro _ a _ f0 ⟨_,_⟩;cases CF a;exact Ro 1 (Ro 1 (Gj f0))
     intro e0 a;intro Z0 g0;have⟨h0,_⟩:=Et o g0;exact GQ a h0
def aL(n:Nat)(a0:BL):Option Bool:=(XR n a0.f).bind fun d=>(cond d ((ZG n a0.d).bind fun j=>some j) (some false)).bind fun f=>(cond f ((Zx n a0).bind fun b=>some b) (some false)).bind fun h=>(cond h ((Ld n a0.h 0 100000).bind fun i=>some i) (some false)).bind fun c=>(cond c ((Ld n a0.i 0 100000).bind fun e=>some e) (some false)).bind fun a=>(cond a ((YG n a0).bind fun g=>some g) (some false)).bind fun k=>some k
theorem zB{c:BL}{i:Bool}{j k l:Value}(a:aL n c=some i)(M:H<=w.heap.size)(g:At C_Pin w H c.d j)(m:At C_Arc w H c.c k)(o:At cJ w H c.g l):
 Calls prog 153 [.agg #[.string c.f,.i c.b,j,k,l,.i c.h,.i c.i]].toArray w (Cf (.bool i) w):=by
 unfold aL at a;refine AE func153 z ntmps153 (Rc 2 (Ef z (AS z z) ?_));rintro _ _ ⟨_,rfl,_,_,p,b⟩;have R:=p.size;refine Ro 5 (Fl Mx JW b ?_);refine Cs a p YZ (fun _=>rU) ?_;rintro _ a _ C ⟨h,_⟩;have b:=b.ext C;refine Ro 1 (JD 4 [1] 10 6 a ?_ ?_)
 ·intro D a;refine Fl Eg Gy b ?_;refine Cs a h lQ (fun _ d=>(xG d (by omega) (g.oj h):)) ?_;rintro _ a _ q ⟨_,_⟩;have b:=b.ext q;cases CF a;exact Ro 1 (Gj q)
 intro D a;intro Z r;have⟨e,_⟩:=Et h r;have b:=b.ext r;refine Ro 1 (JD 3 [1] 14 11 a ?_ ?_)
 ·intro E a;refine Yl z (Ci z Db b By) ?_;refine Cs a e kM (fun _ d=>(wV d (by omega) (g.oj e) (m.oj e) (o.oj e):)) ?_;rintro _ a _ s ⟨_,_⟩;have b:=b.ext s;cases CF a;exact Ro 1 (Gj s)
 intro E a;intro f0 t;have⟨u,_⟩:=Et e t;have b:=b.ext t;refine Ro 1 (JD 4 [1] 19 15 a ?_ ?_)
 ·intro F a;refine Fl Uu AR b ?_;refine Cs a u IS (fun _=>Tu) ?_;rintro _ a _ v ⟨_,_⟩;have b:=b.ext v;cases CF a;exact Ro 1 (Gj v)
 intro F a;intro l0 x;have⟨y,_⟩:=Et u x;have b:=b.ext x;refine Ro 1 (JD 4 [1] 24 20 a ?_ ?_)
 ·intro G a;refine Fl Um AR b ?_;refine Cs a y IS (fun _=>Tu) ?_;rintro _ a _ A ⟨_,_⟩;have b:=b.ext A;cases CF a;exact Ro 1 (Gj A)
 intro G a;intro r0 B;have⟨f,_⟩:=Et y B;have b:=b.ext B;refine Ro 1 (JD 3 [] 28 25 a ?_ ?_)
 ·intro I a;refine Yl z (Ci z Db b By) ?_;refine Cs a f mR (fun _ d=>(yF d (by omega) (g.oj f) (m.oj f) (o.oj f):)) ?_;rintro _ a _ J ⟨_,_⟩;cases CF a;exact Ro 1 (Gj J)
 intro I a;intro x0 K;have⟨L,_⟩:=Et f K;exact GQ a L
def LU(n:Nat)(a0:BT)(k0:(List ByteArray)->Int->Option Bool):Nat->(List ByteArray)->Int->Option Bool
 |0,_,_=>none
 |m+1,b,a=>cond (decide (a<(a0.b.length:Int))) ((AL a0.b a).bind fun c=>(aL n c).bind fun d=>cond (!d) (some false) ((De b [c.f] 16).bind fun e=>LU n a0 k0 m e (wrap .i64 (a+1)))) (k0 b a)
def cO(n:Nat)(a0:BT):Option Bool:=LU n a0 (fun a d=>(cond (decide ((a0.b.length:Int)<=8)) ((TP n a).bind fun c=>some c) (some false)).bind fun b=>some b) n (([]:List ByteArray)) 0
theorem zV{o:BT}{u:Bool}{p:Value}(a:cO n o=some u)(hH:H<=w.heap.size)(v:At C_Cell w H o.b p):
 Calls prog 125 [.agg #[p]].toArray w (Cf (.bool u) w):=by
 unfold cO at a;refine AE func125 z ntmps125 (Rc 2 (Ef z (AS z z) ?_));rintro _ d ⟨q,rfl,_,_,x,D⟩;have n0:=x.size;refine Ro 11 (Gz Ej HJ D JH (v.oj x) (Ro 4 ?_));have N:AC Bc d (d.heap.size) (Iv 0 0) 9 [] (.slice none 0 0):=AC.nil _ _ _ _ _;have E:Bd (Value.slice none 0 0) d.heap.size d.heap.size:=Hp;have⟨O,P,a⟩:=MW a;refine WC.loopD (fun j r wl=>∃(y:List ByteArray) (k:Value) (s:Int),Kn 30 [(1,.p q),(3,k),(7,p),(8,.i ((o.b.length:Int))),(9,.i s)] r∧AU w wl∧d.heap.size<=wl.heap.size∧BO wl q [p] 26∧AC Bc wl (d.heap.size) (Iv 0 0) 9 y k∧Bd k d.heap.size wl.heap.size∧Nb k q∧LU n o O j y s=some u) n ?_ ?_
 ·intro r l;exact⟨(([]:List ByteArray)),((.slice none 0 0)),0,l.sub z,x,nr,D,N,(fun A hg=>by have:=E A hg;omega),(Nb.of E),a⟩
 ·rintro j r _ ⟨y,k,s,l,m,_,b,c,B,F,a⟩;refine EK l ?_;rcases j with _|j;exact EI a;rw [LU.eq_2]at a;refine Rc 6 (Wc z a ?_ ?_)
  ·intro a;refine Rc 6 (Ix a (v.oj m) JH By ?_);rintro e _ a _ ⟨_,_,_,rfl,_,Q,R⟩;obtain⟨S,T,U,rfl,f,g,h⟩:=DU Q;refine Yl z (FT (us:=[.string e.f,.i e.b,S,T,U,.i e.h,.i e.i]) z Db R By) (Ef z (AZ z HM) ?_);rintro _ _ ⟨_,rfl,_,_,G,i⟩;have⟨V,_⟩:=Et m G;have⟨b,f,g,h,c⟩:=Gw b f g h c G;refine Ef z (DQ z i By (AB z (AB z (AB (AF.one f) (AB (AF.one g) (AB (AF.one h) (AB z (AB z BC))))))) z) ?_;rintro _ _ ⟨I,i⟩;have⟨X,_⟩:=Eu V I;have⟨b,f,g,h,c⟩:=NL b f g h (Am c B) I;refine Ro 5 (Yl z (Ci z Db i By) ?_);refine Cs a X lX (fun _ C=>(zB C (by omega) f g h:)) ?_;rintro _ a _ Y ⟨J,_⟩;have⟨b,i,c⟩:=FE b i c Y;refine Ro 3 (Wt a J ?_);intro a;refine Rc 4 (Fl Mx JW i (Ef z (Aq Bc [e.f] [[.string e.f]] z Ez JP z z ⟨z,trivial⟩) ?_));rintro _ _ ⟨_,K,_,_,L,Z⟩;have⟨a0,_⟩:=Et J L;have⟨b,c⟩:=Di b c L;have L0:=BK K;clear K;have⟨b0,c0,a⟩:=AO a;refine Ef z (BA (c:=Bc) z Ez JP z z z z z c (by omega) (AC.slf Z nr nr) c0) ?_;rintro d0 _ ⟨M,t⟩;have⟨e0,_⟩:=Ge a0 t B;have f0:Nb _ q:=Gb t F;have b:=Ah.box t b F;have g0:=HZ t M B;refine Ro 9 ?_;intro r l;exact⟨j,nr,b0,d0,(wrap .i64 (s+1)),l.sub z,e0,(by omega),b,M,(fun A hg=>by have:=g0 A hg;omega),f0,a⟩
  ·intro a;refine Rc 3 ?_
   subst P
   refine Re 4 (Gz Ej HJ b JH (v.oj m) (Ro 2 (JD 3 [] 29 26 a ?_ ?_)))
   ·intro h0 a;refine Ro 1 (Cs a m RW (fun _ C=>(Zn C nr (AC.slf c nz nr):)) ?_);rintro _ a _ i0 ⟨_,_⟩;cases CF a;exact Ro 1 (Gj i0)
   intro h0 a;intro S0 j0;have⟨k0,_⟩:=Et m j0;exact GQ a k0
def Mo(a0:Ae)(k2:(List ByteArray)->Int->Option Bool):Nat->(List ByteArray)->Int->Option Bool
 |0,_,_=>none
 |m+1,b,a=>cond (decide (a<(a0.d.length:Int))) ((AL a0.d a).bind fun c=>(De b [c.f] 16).bind fun d=>Mo a0 k2 m d (wrap .i64 (a+1))) (k2 b a)
def OZ(a0:Ae)(k0:(List ByteArray)->Int->Option Bool):Nat->(List ByteArray)->Int->Option Bool
 |0,_,_=>none
 |m+1,b,a=>cond (decide (a<(a0.b.length:Int))) ((AL a0.b a).bind fun d=>(De b [d.f] 16).bind fun c=>OZ a0 k0 m c (wrap .i64 (a+1))) (k0 b a)
def qU(n:Nat)(a0:Ae):Option Bool:=OZ a0 (fun a i=>Mo a0 (fun b j=>(cond ((((decide ((a.length:Int)<=14))&&(decide ((a0.c.length:Int)<=30))))&&(decide ((b.length:Int)<=8))) ((TP n a).bind fun d=>some d) (some false)).bind fun c=>(cond c ((TP n a0.c).bind fun f=>some f) (some false)).bind fun h=>(cond h ((TP n b).bind fun e=>some e) (some false)).bind fun g=>some g) n (([]:List ByteArray)) 0) n (([]:List ByteArray)) 0
theorem W_z{g:Ae}{B:Bool}{s C t:Value}(a:qU n g=some B)(hH:H<=w.heap.size)(S:At C_Instance w H g.b s)(T:At Bc w H g.c C)(U:At C_Port w H g.d t):
 Calls prog 126 [.agg #[s,C,t]].toArray w (Cf (.bool B) w):=by
 unfold qU at a;refine AE func126 z ntmps126 (Rc 2 (Ef z (AS z z) ?_));rintro _ i ⟨j,rfl,_,_,L,V⟩;have g1:=L.size;refine Ro 12 (Gz Dz GR V Gg (S.oj L) (Ro 4 ?_));have p0:AC Bc i (i.heap.size) (Iv 0 0) 9 [] (.slice none 0 0):=AC.nil _ _ _ _ _;have W:Bd (Value.slice none 0 0) i.heap.size i.heap.size:=Hp;have⟨q0,r0,a⟩:=MW a;refine WC.loopD (fun u h wl=>∃(D:List ByteArray) (k:Value) (E:Int),Kn 62 [(1,.p j),(3,k),(4,.slice none 0 0),(10,s),(11,.i ((g.b.length:Int))),(12,.i E)] h∧AU w wl∧i.heap.size<=wl.heap.size∧BO wl j [s,C,t] 31∧AC Bc wl (i.heap.size) (Iv 0 0) 9 D k∧Bd k i.heap.size wl.heap.size∧Nb k j∧OZ g q0 u D E=some B) n ?_ ?_
 ·intro h d;exact⟨(([]:List ByteArray)),((.slice none 0 0)),0,d.sub z,L,nr,V,p0,(fun m hg=>by have:=W m hg;omega),(Nb.of W),a⟩
 ·rintro u h o ⟨D,k,E,d,F,_,e,l,p,X,a⟩;refine EK d ?_;rcases u with _|u;exact EI a;rw [OZ.eq_2]at a;refine Rc 6 (Wc z a ?_ ?_)
  ·intro a;refine Rc 6 (Ix a (S.oj F) Gg Dj ?_);rintro G _ a _ ⟨_,_,_,rfl,_,s0,t0⟩;obtain⟨u0,rfl,M⟩:=Bz s0;refine Yl z (FT (us:=[.string G.f,.i G.b,u0]) z La t0 Dj) (Ef z (AZ z Mj) ?_);rintro _ _ ⟨_,rfl,_,_,Y,N⟩;have⟨v0,_⟩:=Et F Y;have⟨e,M,l⟩:=FE e M l Y;refine Ef z (DQ z N Dj (AB z (AB z (AB (AF.one M) BC))) z) ?_;rintro _ _ ⟨Z,N⟩;have⟨x0,_⟩:=Eu v0 Z;have⟨e,l⟩:=PH e (Am l p) Z;refine Ro 4 (Fl UN JW N (Ef z (Aq Bc [G.f] [[.string G.f]] z Ez JP z z ⟨z,trivial⟩) ?_));rintro _ _ ⟨_,a0,_,_,b0,y0⟩;have⟨z0,_⟩:=Et x0 b0;have⟨e,l⟩:=Di e l b0;have A1:=BK a0;clear a0;have⟨A0,B0,a⟩:=AO a;refine Ef z (BA (c:=Bc) z Ez JP z z z z z l (by omega) (AC.slf y0 nr nr) B0) ?_;rintro C0 _ ⟨c0,I⟩;have⟨D0,_⟩:=Ge z0 I p;have E0:Nb _ j:=Gb I X;have e:=Ah.box I e X;have F0:=HZ I c0 p;refine Ro 9 ?_;intro h d;exact⟨u,nr,A0,C0,(wrap .i64 (E+1)),d.sub z,D0,(by omega),e,c0,(fun m hg=>by have:=F0 m hg;omega),E0,a⟩
  ·intro a;refine Rc 3 ?_
   subst r0
   refine Re 5 (Gz Fz Im e It (U.oj F) (Ro 4 ?_));have G0:AC Bc o (o.heap.size) (Iv 0 0) 9 [] (.slice none 0 0):=AC.nil _ _ _ _ _;have O:Bd (Value.slice none 0 0) o.heap.size o.heap.size:=Hp;have⟨H0,I0,a⟩:=MW a;refine WC.loopD (fun v h wl=>∃(J:List ByteArray) (q:Value) (K:Int),Kn 62 [(1,.p j),(3,k),(4,q),(23,t),(24,.i ((g.d.length:Int))),(25,.i K)] h∧AU w wl∧o.heap.size<=wl.heap.size∧BO wl j [s,C,t] 31∧AC Bc wl (o.heap.size) (Iv 0 0) 9 J q∧Bd q o.heap.size wl.heap.size∧AC Bc wl (i.heap.size) (Iv 0 0) 9 D k∧Nb q j∧No q k∧Mo g H0 v J K=some B) n ?_ ?_
   ·intro h d;exact⟨(([]:List ByteArray)),((.slice none 0 0)),0,d.sub z,F,nr,e,G0,(fun m hg=>by have:=O m hg;omega),l,(Nb.of O),(No.of O p),a⟩
   ·rintro v h _ ⟨J,q,K,d,x,_,c,b,P,f,d0,J0,a⟩;refine EK d ?_;rcases v with _|v;exact EI a;rw [Mo.eq_2]at a;refine Rc 6 (Wc z a ?_ ?_)
    ·intro a;refine Rc 6 (Ix a (U.oj x) It HI ?_);rintro y _ a _ ⟨_,_,_,rfl,_,K0,L0⟩;obtain rfl:=FR K0;refine Yl z (FT (us:=[.string y.f,.i y.b,.i y.c]) z Vw L0 HI) (Ef z (AZ z MX) ?_);rintro _ _ ⟨_,rfl,_,_,e0,Q⟩;have⟨M0,_⟩:=Et x e0;have⟨c,b,f⟩:=FE c b f e0;refine Ef z (DQ z Q HI z z) ?_;rintro _ _ ⟨f0,Q⟩;have⟨O0,_⟩:=Eu M0 f0;have⟨c,b,f⟩:=Iw c (Am b P) (Am f p) f0;refine Ro 4 (Fl Tw JW Q (Ef z (Aq Bc [y.f] [[.string y.f]] z Ez JP z z ⟨z,trivial⟩) ?_));rintro _ _ ⟨_,g0,_,_,h0,P0⟩;have⟨Q0,_⟩:=Et O0 h0;have⟨c,b,f⟩:=FE c b f h0;have X1:=BK g0;clear g0;have⟨R0,S0,a⟩:=AO a;refine Ef z (BA (c:=Bc) z Ez JP z z z z z b (by omega) (AC.slf P0 nr nr) S0) ?_;rintro T0 _ ⟨i0,r⟩;have⟨U0,_⟩:=Ge Q0 r P;have V0:Nb _ j:=Gb r d0;have c:=Ah.box r c d0;have j0:=J0;have W0:=Gn r j0 p;have f:=Ah.ownF r f j0;have X0:=HZ r i0 P;refine Ro 9 ?_;intro h d;exact⟨v,nr,R0,T0,(wrap .i64 (K+1)),d.sub z,U0,(by omega),c,i0,(fun m hg=>by have:=X0 m hg;omega),f,V0,W0,a⟩
    ·intro a;refine Rc 3 ?_
     subst I0
     refine Re 5 (Yl z (Hm z Ez f) (Ro 2 (Oz 5 [1,3,4] 43 38 (decide ((g.c.length:Int)<=30)) z ?_ ?_)))
     ·exact Gz HO LA c Ez (T.oj x) (Ro 2 (Fk))
     refine Ro 1 (Oz 4 [1,3,4] 48 44 (decide ((J.length:Int)<=8)) z ?_ ?_)
     ·exact Ro 1 (Yl z (Hm z Ez b) (Ro 2 (Fk)))
     refine Ro 1 (JD 3 [1,4] 52 49 a ?_ ?_)
     ·intro Y0 a;refine Ro 1 (Cs a x RW (fun _ A=>(Zn A nr (AC.slf f nz nr):)) ?_);rintro _ a _ k0 ⟨_,_⟩;have⟨c,b⟩:=Di c b k0;cases CF a;exact Ro 1 (Gj k0)
     intro Y0 a;intro e2 l0;have⟨R,_⟩:=Et x l0;have⟨c,b⟩:=Di c b l0;refine Ro 1 (JD 4 [4] 57 53 a ?_ ?_)
     ·intro Z0 a;refine Fl HO LA c ?_;refine Cs a R RW (fun _ A=>(Zn A (by omega) (T.oj R):)) ?_;rintro _ a _ m0 ⟨_,_⟩;have b:=b.ext m0;cases CF a;exact Ro 1 (Gj m0)
     intro Z0 a;intro k2 n0;have⟨o0,_⟩:=Et R n0;have b:=b.ext n0;refine Ro 1 (JD 3 [] 61 58 a ?_ ?_)
     ·intro a1 a;refine Ro 1 (Cs a o0 RW (fun _ A=>(Zn A nr (AC.slf b nz nr):)) ?_);rintro _ a _ b1 ⟨_,_⟩;cases CF a;exact Ro 1 (Gj b1)
     intro a1 a;intro q2 c1;have⟨d1,_⟩:=Et o0 c1;exact GQ a d1
def gU(n:Nat)(a0:List BL):Option Int:=some ((a0.length:Int))
theorem AbR{a:List BL}{b:Int}{c:Value}(d:gU n a=some b)(g:H<=w.heap.size)(f:At C_Cell w H a c):
 Calls prog 155 [c].toArray w (Cf (.i b) w):=by
 have e:=AU.refl w;unfold gU at d;exact AE func155 z ntmps155 (Rc 8 (Yl z (HK z JH (f.oj e)) (GQ d e)))
def gK(n:Nat)(a0:List ByteArray):Option Int:=some ((a0.length:Int))
theorem AaJ{a:List ByteArray}{b:Int}{c:Value}(d:gK n a=some b)(g:H<=w.heap.size)(f:At Bc w H a c):
 Calls prog 158 [c].toArray w (Cf (.i b) w):=by
 have e:=AU.refl w;unfold gK at d;exact AE func158 z ntmps158 (Rc 8 (Yl z (HK z Ez (f.oj e)) (GQ d e)))
def XO(n:Nat)(a0:Ae)(a1:Int):Option Bool:=(gK n a0.c).bind fun b=>(Ld n a1 0 (wrap .i64 (b-1))).bind fun a=>some a
theorem uX{b:Ae}{d:Int}{e:Bool}{f g h:Value}(a:XO n b d=some e)(o:H<=w.heap.size)(p:At C_Instance w H b.b f)(i:At Bc w H b.c g)(q:At C_Port w H b.d h):
 Calls prog 128 [.agg #[f,g,h],.i d].toArray w (Cf (.bool e) w):=by
 unfold XO at a;refine AE func128 z ntmps128 (Rc 2 (Ef z (AS z z) ?_));rintro _ _ ⟨_,rfl,_,_,c,j⟩;have v:=c.size;refine Ro 6 (Fl HO LA j ?_);refine Cs a c jV (fun _ k=>(AaJ k (by omega) (i.oj c):)) ?_;rintro _ a _ _ ⟨l,_⟩;refine Ro 1 (Cs a l IS (fun _=>Tu) ?_);rintro _ a _ _ ⟨m,_⟩;exact GQ a m
def gG(n:Nat)(a0:Int)(a1:Ae):Option Bool:=(XO n a1 a0).bind fun a=>some (!a)
theorem AbF{d:Int}{a:Ae}{e:Bool}{f g h:Value}{i:Nat}(b:gG n d a=some e)(q:H<=w.heap.size)(j:BO w i [f,g,h] 31)(k:At C_Instance w H a.b f)(l:At Bc w H a.c g)(m:At C_Port w H a.d h):
 Calls prog 157 [.i d,.p i].toArray w (Cf (.bool e) w):=by
 have c:=AU.refl w;have:=BO.lt j;unfold gG at b;refine AE func157 z ntmps157 (Rc 7 (Yl z (Ci z FB j EZ) (Ro 1 ?_)));refine Cs b c Yn (fun _ o=>(uX o (by omega) (k.oj c) (l.oj c) (m.oj c):)) ?_;rintro _ b _ _ ⟨p,_⟩;exact GQ b p
def LW(n:Nat)(a0:List Int)(a1c0:Ae)(k0:Int->Option Int):Nat->Int->Option Int
 |0,_=>none
 |m+1,a=>cond (decide (a<(a0.length:Int))) ((AL a0 a).bind fun c=>(gG n c a1c0).bind fun b=>cond b (some a) (LW n a0 a1c0 k0 m (wrap .i64 (a+1)))) (k0 a)
def fF(n:Nat)(a0:List Int)(a1c0:Ae):Option Int:=LW n a0 a1c0 (fun a=>some (-1)) n 0
theorem AaM{g:List Int}{c:Ae}{j:Int}{k m o p:Value}{l:Nat}(a:fF n g c=some j)(A:H<=w.heap.size)(q:At cJ w H g k)(h:BO w l [m,o,p] 31)(s:At C_Instance w H c.b m)(t:At Bc w H c.c o)(u:At C_Port w H c.d p):
 Calls prog 173 [k,.func (.func 157) #[] [.p l].toArray].toArray w (Cf (.i j) w):=by
 have v:=AU.refl w;have:=BO.lt h;unfold fF at a;refine AE func173 z ntmps173 (Rc 9 (Yl z (HK z Ak (q.oj v)) (Ro 4 ?_)));refine WC.loopD (fun d i wl=>∃e:Int,Kn 19 [(0,k),(1,.func (.func 157) #[] [.p l].toArray),(7,.i ((g.length:Int))),(8,.i e)] i∧AU w wl∧LW n g c (fun e=>(some (-1))) d e=some j) n ?_ ?_
 ·intro i f;exact⟨0,f.sub z,AU.refl _,a⟩
 ·rintro d i _ ⟨e,f,b,a⟩;refine EK f ?_;rcases d with _|d;exact EI a;rw [LW.eq_2]at a;have C:=b.size;have h:=h.ext b;refine Rc 6 (Wf a b ?_);intro a;refine Rc 15 (Il a (q.oj b) Ak Bb AR ?_);rintro _ a _;have⟨_,x,a⟩:=AO a;refine Ef z (Gx z mX z z (AbF x (by omega) h (s.oj b) (t.oj b) (u.oj b):)) ?_;rintro _ _ ⟨rfl,r⟩;have⟨y,_⟩:=Et b r;refine Ro 2 (Wt a y ?_);intro a;refine Rc 8 ?_;intro i f;exact⟨d,nr,(wrap .i64 (e+1)),f.sub z,(AU.trans b r),a⟩
def eE(n:Nat)(a0:List Int)(a1c0:Ae):Option Bool:=(fF n a0 a1c0).bind fun a=>some (decide (a>=0))
theorem AaN{d:List Int}{b:Ae}{e:Bool}{f g h i:Value}{j:Nat}(c:eE n d b=some e)(s:H<=w.heap.size)(l:At cJ w H d f)(k:BO w j [g,h,i] 31)(m:At C_Instance w H b.b g)(o:At Bc w H b.c h)(p:At C_Port w H b.d i):
 Calls prog 156 [f,.func (.func 157) #[] [.p j].toArray].toArray w (Cf (.bool e) w):=by
 have a:=AU.refl w;have:=BO.lt k;unfold eE at c;refine AE func156 z ntmps156 (Rc 9 (Cs c a bW (fun _ q=>(AaM q (by omega) (l.oj a) k (m.oj a) (o.oj a) (p.oj a):)) ?_));rintro _ c _ _ ⟨r,_⟩;exact GQ c r
def ZF(n:Nat)(a0:Ae)(a1:BT)(a2:BI):Option Bool:=(gU n a1.b).bind fun a=>(Ld n a2.b 0 (wrap .i64 (a-1))).bind fun e=>(cond e ((AL a1.b a2.b).bind fun f=>some ((((a2.c.length:Int))==((f.d.length:Int))))) (some false)).bind fun d=>(cond d ((eE n a2.c a0).bind fun b=>some (!b)) (some false)).bind fun c=>some c
theorem zD{e:Ae}{i:BT}{f:BI}{j:Bool}{k l m o p:Value}(a:ZF n e i f=some j)(c:H<=w.heap.size)(v:At C_Instance w H e.b k)(x:At Bc w H e.c l)(y:At C_Port w H e.d m)(q:At C_Cell w H i.b o)(r:At cJ w H f.c p):
 Calls prog 127 [.agg #[k,l,m],.agg #[o],.agg #[.string f.f,.i f.b,p]].toArray w (Cf (.bool j) w):=by
 unfold ZF at a;refine AE func127 z ntmps127 (Rc 2 (Ef z (AS z z) ?_));rintro _ _ ⟨_,rfl,_,_,s,d⟩;have Q:=s.size;refine Ef z (AS z z) ?_;rintro _ _ ⟨_,rfl,_,_,t,g⟩;have⟨A,_⟩:=Et s t;have d:=d.ext t;refine Ef z (AS z z) ?_;rintro _ _ ⟨_,rfl,_,_,u,h⟩;have⟨b,_⟩:=Et A u;have⟨d,g⟩:=Di d g u;refine Ro 4 (DH Tryz.hm (Fq FC AR h (Fq Ej HJ g ?_)));have⟨_,B,a⟩:=AO a;refine Ql z (MT z kG fun w' hw'=>(AbR B (Ar (by omega) (hw').size) (q.oh c (AU.trans b hw')):)) ?_;refine Qr 1 ?_;have⟨_,C,a⟩:=AO a;refine Ql z (MT z IS fun w' hw'=>(Tu C:)) ?_;refine Qr 1 (LC 13 [3,5] 27 14 a ?_ ?_)
 ·intro D a;refine Tq FQ Bn h Ak (r.oj b) (Fq Ej HJ g (Fq FC AR h (Iq a (q.oj b) JH By ?_)));rintro _ _ a _ ⟨_,_,_,rfl,_,E,F⟩;obtain⟨_,_,_,rfl,G,_,_⟩:=DU E;refine JC Eg Gy F (Qy z (HK z GC G) (Qr 1 ?_));cases CF a;exact Qr 1 LD
 intro D a;refine Qr 1 (LC 6 [] 34 28 a ?_ ?_)
 ·intro I a;refine Fq FQ Bn h (Qy z (HQ z z z) ?_);have⟨_,J,a⟩:=AO a;refine Ql z (MT z Xz fun w' hw'=>(AaN J (Ar (by omega) (hw').size) (r.oh c (AU.trans b hw')) (BO.ext d hw') (v.oh c (AU.trans b hw')) (x.oh c (AU.trans b hw')) (y.oh c (AU.trans b hw')):)) ?_;refine Qr 1 ?_;cases CF a;exact Qr 1 LD
 intro I a;refine Qr 1 ?_;refine QL.done fun p0 K=>?_;have⟨L,_⟩:=Et b K;exact UO a L
def gY(n:Nat)(a0:Int):Option Bool:=some ((a0 !=1))
theorem AaQ{a:Int}{b:Bool}(c:gY n a=some b):
 Calls prog 130 [.i a].toArray w (Cf (.bool b) w):=by
 have d:=AU.refl w;unfold gY at c;exact AE func130 z ntmps130 (Xn c d)
def MG(n:Nat)(a0:List Int)(k0:Int->Option Int):Nat->Int->Option Int
 |0,_=>none
 |m+1,a=>cond (decide (a<(a0.length:Int))) ((AL a0 a).bind fun c=>(gY n c).bind fun b=>cond b (some a) (MG n a0 k0 m (wrap .i64 (a+1)))) (k0 a)
def eV(n:Nat)(a0:List Int):Option Int:=MG n a0 (fun a=>some (-1)) n 0
theorem AbT{f:List Int}{h:Int}{i:Value}(a:eV n f=some h)(p:H<=w.heap.size)(j:At cJ w H f i):
 Calls prog 159 [i,.func (.func 130) #[] #[]].toArray w (Cf (.i h) w):=by
 have l:=AU.refl w;unfold eV at a;refine AE func159 z ntmps159 (Rc 9 (Yl z (HK z Ra (j.oj l)) (Ro 4 ?_)));refine WC.loopD (fun b g wl=>∃c:Int,Kn 19 [(0,i),(1,.func (.func 130) #[] #[]),(7,.i ((f.length:Int))),(8,.i c)] g∧AU w wl∧MG n f (fun c=>(some (-1))) b c=some h) n ?_ ?_
 ·intro g d;exact⟨0,d.sub z,AU.refl _,a⟩
 ·rintro b g _ ⟨c,d,e,a⟩;refine EK d ?_;rcases b with _|b;exact EI a;rw [MG.eq_2]at a;have r:=e.size;refine Rc 6 (Wf a e ?_);intro a;refine Rc 15 (Il a (j.oj e) Ra Ue Uj ?_);rintro _ a _;have⟨_,m,a⟩:=AO a;refine Ef z (Gx z mA z z (AaQ m:)) ?_;rintro _ _ ⟨rfl,k⟩;have⟨o,_⟩:=Et e k;refine Ro 2 (Wt a o ?_);intro a;refine Rc 8 ?_;intro g d;exact⟨b,nr,(wrap .i64 (c+1)),d.sub z,(AU.trans e k),a⟩
def eC(n:Nat)(a0:List Int):Option Bool:=(eV n a0).bind fun a=>some (decide (a>=0))
theorem yK{b:List Int}{c:Bool}{d:Value}(a:eC n b=some c)(i:H<=w.heap.size)(f:At cJ w H b d):
 Calls prog 129 [d,.func (.func 130) #[] #[]].toArray w (Cf (.bool c) w):=by
 have e:=AU.refl w;unfold eC at a;refine AE func129 z ntmps129 (Rc 9 (Cs a e lK (fun _ g=>(AbT g (by omega) (f.oj e):)) ?_));rintro _ a _ _ ⟨h,_⟩;exact GQ a h
def KE(n:Nat)(a1:Ae)(k2:Int->(List Int)->Option Bool):Nat->Int->(List Int)->Option Bool
 |0,_,_=>none
 |m+1,c,b=>cond (decide (c<(a1.d.length:Int))) ((AL a1.d c).bind fun a=>(cond (((a.b !=1))&&((a.b !=2))) (some true) ((XO n a1 a.c).bind fun f=>some (!f))).bind fun e=>cond e (some false) (cond (a.b==1) ((AL b a.c).bind fun d=>(AL b a.c).bind fun g=>KE n a1 k2 m (wrap .i64 (c+1)) ((b.set (a.c).toNat (wrap .i64 (d+1))))) (KE n a1 k2 m (wrap .i64 (c+1)) b))) (k2 c b)
def LI(n:Nat)(a0:BT)(a1:Ae)(k0:Int->(List Int)->Option Bool):Nat->Int->(List Int)->Option Bool
 |0,_,_=>none
 |m+1,a,b=>cond (decide (a<(a1.b.length:Int))) ((AL a1.b a).bind fun c=>(ZF n a1 a0 c).bind fun f=>cond (!f) (some false) ((AL c.c (wrap .i64 (((c.c.length:Int))-1))).bind fun d=>(AL b d).bind fun e=>(AL b d).bind fun g=>LI n a0 a1 k0 m (wrap .i64 (a+1)) ((b.set (d).toNat (wrap .i64 (e+1)))))) (k0 a b)
def bT(n:Nat)(a0:BT)(a1:Ae):Option Bool:=(cO n a0).bind fun g=>(cond (!g) (some true) ((qU n a1).bind fun c=>some (!c))).bind fun d=>cond d (some false) ((Qw ((a1.c.length:Int)) 8).bind fun f=>LI n a0 a1 (fun h e=>KE n a1 (fun i a=>(eC n a).bind fun b=>some (!b)) n 0 e) n 0 (List.replicate f 0))
theorem AaG{N:BT}{m:Ae}{E:Bool}{O q F r:Value}(a:bT n N m=some E)(hH:H<=w.heap.size)(V:At C_Cell w H N.b O)(s:At C_Instance w H m.b q)(G:At Bc w H m.c F)(t:At C_Port w H m.d r):
 Calls prog 87 [.agg #[O],.agg #[q,F,r]].toArray w (Cf (.bool E) w):=by
 unfold bT at a;refine AE func87 z ntmps87 (Rc 2 (Ef z (AS z z) ?_));rintro _ _ ⟨W,rfl,_,_,X,e⟩;have f1:=X.size;refine Ef z (AS z z) ?_;rintro _ _ ⟨I,rfl,_,_,Y,f⟩;have⟨Z,_⟩:=Et X Y;have e:=e.ext Y;refine Ro 6 (Yl z (Ci z Mi e KV) ?_);refine Cs a Z mB (fun _ b=>(zV b (by omega) (V.oj Z):)) ?_;rintro _ a _ u0 ⟨u,_⟩;have⟨e,f⟩:=Di e f u0;refine Ro 2 (PI 4 [2,3] 17 13 a ?_ ?_)
 ·intro v0 a;refine Yl z (Ci z FB f EZ) ?_;refine Cs a u nI (fun _ b=>(W_z b (by omega) (s.oj u) (G.oj u) (t.oj u):)) ?_;rintro _ a _ a0 ⟨_,_⟩;have⟨e,f⟩:=Di e f a0;cases CF a;exact Ro 1 (Ro 1 (Gj a0))
 intro v0 a;intro r1 b0;have⟨P,_⟩:=Et u b0;have⟨e,f⟩:=Di e f b0;refine Ro 2 (Wt a P ?_);intro a;refine Rc 4 (Gz HO LA f Ez (G.oj P) ?_);have⟨w0,x0,a⟩:=AO a;refine Ef z (GY (c:=cJ) (z:=0) z Ra AcJ z z z x0 z z (fun _=>z)) ?_;rintro J y0 ⟨c0,d0,_,_,e0,z0⟩;have⟨f0,_⟩:=Et P e0;have⟨e,f⟩:=Di e f e0;have K:=BK d0;clear d0;refine Ro 6 (Gz Dz GR f Gg (s.oj f0) (Ro 4 ?_));have⟨A0,B0,a⟩:=MW a;refine WC.loopD (fun v i wl=>∃(L:Int) (x:List Int),Kn 84 [(2,.p W),(3,.p I),(5,J),(23,q),(24,.i ((m.b.length:Int))),(25,.i L)] i∧AU w wl∧y0.heap.size<=wl.heap.size∧BO wl I [q,F,r] 31∧BO wl W [O] 26∧AC cJ wl (c0) (Iv 0 0) 3 x J∧LI n N m A0 v L x=some E) n ?_ ?_
 ·intro i hK;exact⟨0,(List.replicate w0 0),hK.sub z,f0,nr,f,e,z0,a⟩
 ·rintro v i C0 ⟨L,x,hK,M,_,g,j,k,a⟩;refine EK hK ?_;rcases v with _|v;exact EI a;rw [LI.eq_2]at a;refine Rc 6 (Wc z a ?_ ?_)
  ·intro a;refine Rc 6 (Ix a (s.oj M) Gg Dj ?_);rintro g0 _ a _ ⟨_,_,_,rfl,_,D0,E0⟩;obtain⟨F0,rfl,l⟩:=Bz D0;refine Yl z (FT (us:=[.string g0.f,.i g0.b,F0]) z La E0 Dj) (Ef z (AZ z Mj) ?_);rintro _ _ ⟨_,rfl,_,_,h0,o⟩;have⟨G0,_⟩:=Et M h0;have⟨g,j,l,k⟩:=Gp g j l k h0;refine Ef z (DQ z o Dj (AB z (AB z (AB (AF.one l) BC))) z) ?_;rintro _ _ ⟨i0,o⟩;have⟨y,_⟩:=Eu G0 i0;have⟨g,j,l,k⟩:=Jq g j l (Am k K) i0;refine Ro 5 (Yl z (Ci z FB g EZ) (Yl z (Ci z Mi j KV) (Yl z (Ci z La o Dj) ?_)));refine Cs a y lU (fun _ b=>(zD b (by omega) (s.oj y) (G.oj y) (t.oj y) (V.oj y) l:)) ?_;rintro _ a _ I0 ⟨j0,_⟩;have⟨g,j,o,l,k⟩:=Gw g j o l k I0;refine Ro 3 (Wt a j0 ?_);intro a;refine Rc 4 (Fl FQ Bn o (Gz FQ Bn o Ak l (Ro 1 (Il a l Ak Bb AR ?_))));rintro J0 a _;refine PG a k Ra Ue Uj ?_;rintro Q a _;refine Ro 1 (Io a k Ra Ue ?_);rintro _ K0 a _ ⟨_,_,rfl,k0,l0,L0⟩;have M0:=l0;obtain rfl:=l0;refine Ef z (Be (c:=cJ) (us':=[.i (wrap .i64 (Q+1))]) (y':=wrap .i64 (Q+1)) 0 _ z z z k k0 K0 z Ue z M0 L0 z z z (fun R b=>absurd b.2 (AV R))) ?_;rintro _ _ ⟨m0,N0⟩;have:=K _ k0;have⟨O0,_⟩:=Eu j0 m0;have⟨g,j⟩:=PH g j m0;refine Ro 8 ?_;intro i hK;exact⟨v,nr,(wrap .i64 (L+1)),((x.set (J0).toNat (wrap .i64 (Q+1)))),hK.sub z,O0,(by omega),g,j,N0,a⟩
  ·intro a;refine Rc 3 ?_
   subst B0
   refine Re 5 (Gz Fz Im g It (t.oj M) (Ro 4 ?_));have⟨P0,Q0,a⟩:=MW a;refine WC.loopD (fun p i wl=>∃(A:Int) (B:List Int),Kn 84 [(3,.p I),(5,J),(49,r),(50,.i ((m.d.length:Int))),(51,.i A)] i∧AU w wl∧C0.heap.size<=wl.heap.size∧BO wl I [q,F,r] 31∧AC cJ wl (c0) (Iv 0 0) 3 B J∧KE n m P0 p A B=some E) n ?_ ?_
   ·intro i hK;exact⟨0,x,hK.sub z,M,nr,g,k,a⟩
   ·rintro p i _ ⟨A,B,hK,S,_,c,d,a⟩;refine EK hK ?_;rcases p with _|p;exact EI a;rw [KE.eq_2]at a;refine Rc 6 (Wc z a ?_ ?_)
    ·intro a;refine Rc 6 (Ix a (t.oj S) It HI ?_);rintro C _ a _ ⟨_,_,_,rfl,_,R0,S0⟩;obtain rfl:=FR R0;refine Yl z (FT (us:=[.string C.f,.i C.b,.i C.c]) z Vw S0 HI) (Ef z (AZ z MX) ?_);rintro _ _ ⟨_,rfl,_,_,n0,h⟩;have⟨T0,_⟩:=Et S n0;have⟨c,d⟩:=Di c d n0;refine Ef z (DQ z h HI z z) ?_;rintro _ _ ⟨o0,h⟩;have⟨D,_⟩:=Eu T0 o0;have⟨c,d⟩:=PH c (Am d K) o0;refine Ro 5 (Fl Is AR h (Ro 2 (Oz 4 [3,5,9,49,50,51] 62 58 ((C.b !=2)) z ?_ ?_)))
     ·exact Fl Is AR h (Ro 2 (Fk))
     refine Ro 1 (PI 6 [3,5,9,49,50,51] 69 63 a ?_ ?_)
     ·intro V0 a;refine Yl z (Ci z FB c EZ) (Fl Ks AR h ?_);refine Cs a D Yn (fun _ b=>(uX b (by omega) (s.oj D) (G.oj D) (t.oj D):)) ?_;rintro _ a _ p0 ⟨_,_⟩;have⟨c,h,d⟩:=FE c h d p0;cases CF a;exact Ro 1 (Ro 1 (Gj p0))
     intro V0 a;intro j2 q0;have⟨T,_⟩:=Et D q0;have⟨c,h,d⟩:=FE c h d q0;refine Ro 2 (Wt a T ?_);intro a;refine Rc 4 (Fl Is AR h (Ro 3 (Wc z a ?_ ?_)))
     ·intro a;refine Rc 2 (Fl Ks AR h (PG a d Ra Ue Uj ?_));rintro U a _;refine Ro 1 (Io a d Ra Ue ?_);rintro _ W0 a _ ⟨_,_,rfl,r0,s0,X0⟩;have Y0:=s0;obtain rfl:=s0;refine Ef z (Be (c:=cJ) (us':=[.i (wrap .i64 (U+1))]) (y':=wrap .i64 (U+1)) 0 _ z z z d r0 W0 z Ue z Y0 X0 z z z (fun R b=>absurd b.2 (AV R))) ?_;rintro _ _ ⟨t0,Z0⟩;have:=K _ r0;have⟨a1,_⟩:=Eu T t0;have c:=c.upd t0 (by omega);refine Ro 8 ?_;intro i hK;exact⟨p,nr,(wrap .i64 (A+1)),((B.set (C.c).toNat (wrap .i64 (U+1)))),hK.sub z,a1,(by omega),c,Z0,a⟩
     ·intro a;refine Rc 8 ?_;intro i hK;exact⟨p,nr,(wrap .i64 (A+1)),B,hK.sub z,T,(by omega),c,d,a⟩
    ·intro a;refine Rc 3 ?_
     subst Q0
     refine Re 5 ?_;refine Cs a S lJ (fun _ b=>(yK b nr (AC.slf d nz nr):)) ?_;rintro _ a _ _ ⟨b1,_⟩;exact GQ a b1
def Ot(i22:Int)(x26:BI)(k2:(List Bi)->Int->Option (List Bi)):Nat->(List Bi)->Int->Option (List Bi)
 |0,_,_=>none
 |m+1,b,a=>cond (decide (a<(x26.c.length:Int))) ((AL x26.c a).bind fun c=>(De b ([(Bi.mk i22 a c ((a==(wrap .i64 (((x26.c.length:Int))-1)))))]) 32).bind fun d=>Ot i22 x26 k2 m d (wrap .i64 (a+1))) (k2 b a)
def NT(a0:Ae)(k4:(List Bi)->Int->Option (List Bi)):Nat->(List Bi)->Int->Option (List Bi)
 |0,_,_=>none
 |m+1,c,a=>cond (decide (a<(a0.d.length:Int))) ((AL a0.d a).bind fun b=>(De c ([(Bi.mk (-1) a b.c ((b.b==1)))]) 32).bind fun d=>NT a0 k4 m d (wrap .i64 (a+1))) (k4 c a)
def NO(n:Nat)(a0:Ae)(k0:(List Bi)->Int->Option (List Bi)):Nat->(List Bi)->Int->Option (List Bi)
 |0,_,_=>none
 |m+1,b,a=>cond (decide (a<(a0.b.length:Int))) ((AL a0.b a).bind fun d=>Ot a d (fun c e=>NO n a0 k0 m c (wrap .i64 (a+1))) n b 0) (k0 b a)
def fK(n:Nat)(a0:Ae):Option (List Bi):=NO n a0 (fun a c=>NT a0 (fun b d=>some b) n a 0) n (([]:List Bi)) 0
theorem sM{h:Ae}{y:List Bi}{s G A:Value}(a:fK n h=some y)(hH:H<=w.heap.size)(X:At C_Instance w H h.b s)(Z0:At Bc w H h.c G)(Y:At C_Port w H h.d A):
 Calls prog 88 [.agg #[s,G,A]].toArray w (Fu fun q0 Z=>∃a0,q0=a0∧AC C_place Z w.heap.size (Iv 0 0) 172 y a0∧AU w Z):=by
 unfold fK at a;refine AE func88 z ntmps88 (Rc 2 (Ef z (AS z z) ?_));rintro _ c ⟨l,rfl,_,_,S,b0⟩;have c1:=S.size;refine Ro 11 (Gz Dz GR b0 Gg (X.oj S) (Ro 4 ?_));have r0:AC C_place c (c.heap.size) (Iv 0 0) 172 [] (.slice none 0 0):=AC.nil _ _ _ _ _;have c0:Bd (Value.slice none 0 0) c.heap.size c.heap.size:=Hp;have⟨s0,t0,a⟩:=MW a;refine WC.loopD (fun B b wl=>∃(C:List Bi) (m:Value) (e:Int),Kn 61 [(1,.p l),(3,m),(11,s),(12,.i ((h.b.length:Int))),(13,.i e)] b∧AU w wl∧c.heap.size<=wl.heap.size∧BO wl l [s,G,A] 31∧AC C_place wl (c.heap.size) (Iv 0 0) 172 C m∧Bd m c.heap.size wl.heap.size∧Nb m l∧NO n h s0 B C e=some y) n ?_ ?_
 ·intro b hK;exact⟨(([]:List Bi)),((.slice none 0 0)),0,hK.sub z,S,nr,b0,r0,(fun d hg=>by have:=c0 d hg;omega),(Nb.of c0),a⟩
 ·rintro B b u0 ⟨C,m,e,hK,I,_,t,u,J,v0,a⟩;refine EK hK ?_;rcases B with _|B;exact EI a;rw [NO.eq_2]at a;refine Rc 6 (Wc z a ?_ ?_)
  ·intro a;refine Rc 7 (Ix a (X.oj I) Gg Dj ?_);rintro f _ a _ ⟨_,_,_,rfl,_,w0,x0⟩;obtain⟨K,rfl,o⟩:=Bz w0;refine Yl z (FT (us:=[.string f.f,.i f.b,K]) z La x0 Dj) (Ef z (AZ z Mj) ?_);rintro _ _ ⟨L,rfl,_,_,d0,M⟩;have⟨y0,_⟩:=Et I d0;have⟨t,o,u⟩:=FE t o u d0;refine Ro 1 (Ef z (DQ z M Dj (AB z (AB z (AB (AF.one o) BC))) z) ?_);rintro _ z0 ⟨e0,M⟩;have⟨B0,_⟩:=Eu y0 e0;have⟨t,o,u⟩:=Iw t o (Am u J) e0;refine Ro 4 (Gz FQ Bn M Ak o (Ro 4 ?_));have⟨C0,D0,a⟩:=MW a;refine WC.loopD (fun D b wl=>∃(N:List Bi) (p:Value) (g:Int),Kn 61 [(1,.p l),(3,p),(4,.i e),(5,.p L),(11,s),(12,.i ((h.b.length:Int))),(13,.i e),(19,K),(20,.i ((f.c.length:Int))),(21,.i g)] b∧AU w wl∧z0.heap.size<=wl.heap.size∧BO wl L [.string f.f,.i f.b,K] 115∧BO wl l [s,G,A] 31∧AF cJ wl (Iv 0 H) f.c K∧AC C_place wl (c.heap.size) (Iv 0 0) 172 N p∧Bd p c.heap.size wl.heap.size∧Nb p L∧Nb p l∧Ot e f C0 D N g=some y) n ?_ ?_
   ·intro b hK;exact⟨C,m,0,hK.sub z,B0,nr,M,t,o,u,(fun d hg=>by have:=J d hg;omega),(Nb.of J),v0,a⟩
   ·rintro D b _ ⟨N,p,g,hK,f0,_,v,x,q,O,P,g0,T,a⟩;refine EK hK ?_;rcases D with _|D;exact EI a;rw [Ot.eq_2]at a;refine Rc 6 (Wc z a ?_ ?_)
    ·intro a;refine Rc 7 (Il a q Ak Bb AR ?_);rintro U a _;refine Ro 10 (Gz FQ Bn v Ak q (Ro 2 (Yl z (DS [.i e,.i g,.i U,.bool ((g==(wrap .i64 (((f.c.length:Int))-1))))] z z SF Yz z) (Ef z (Aq C_place ([(Bi.mk e g U ((g==(wrap .i64 (((f.c.length:Int))-1)))))]) [[.i e,.i g,.i U,.bool ((g==(wrap .i64 (((f.c.length:Int))-1))))]] z Pi TK z z ⟨SK,trivial⟩) ?_))));rintro _ _ ⟨_,h0,_,_,i0,E0⟩;have⟨F0,_⟩:=Et f0 i0;have⟨v,x,q,O⟩:=Gp v x q O i0;have w1:=BK h0;clear h0;have⟨G0,H0,a⟩:=AO a;refine Ef z (BA (c:=C_place) z Pi TK z z z z z O (by omega) (AC.slf E0 nr nr) H0) ?_;rintro I0 _ ⟨j0,r⟩;have⟨J0,_⟩:=Ge F0 r P;have K0:Nb _ L:=Gb r g0;have v:=Ah.box r v g0;have L0:Nb _ l:=Gb r T;have x:=Ah.box r x T;have q:=Ah.slr r q (Ns.of P);have M0:=HZ r j0 P;refine Ro 9 ?_;intro b hK;exact⟨D,nr,G0,I0,(wrap .i64 (g+1)),hK.sub z,J0,(by omega),v,x,q,j0,(fun d hg=>by have:=M0 d hg;omega),K0,L0,a⟩
    ·intro a;refine Rc 3 ?_
     subst D0
     refine Re 8 ?_;intro b hK;exact⟨B,nr,N,p,(wrap .i64 (e+1)),hK.sub z,f0,(by omega),x,O,(fun d hg=>by have:=P d hg;omega),T,a⟩
  ·intro a;refine Rc 3 ?_
   subst t0
   refine Re 5 (Gz Fz Im t It (Y.oj I) (Ro 4 ?_));refine WC.loopD (fun E b wl=>∃(F:List Bi) (Q:Value) (j:Int),Kn 61 [(3,Q),(42,A),(43,.i ((h.d.length:Int))),(44,.i j)] b∧AU w wl∧u0.heap.size<=wl.heap.size∧AC C_place wl (c.heap.size) (Iv 0 0) 172 F Q∧Bd Q c.heap.size wl.heap.size∧NT h (fun F j=>(some F)) E F j=some y) n ?_ ?_
   ·intro b hK;exact⟨C,m,0,hK.sub z,I,nr,u,(fun d hg=>by have:=J d hg;omega),a⟩
   ·rintro E b _ ⟨F,Q,j,hK,V,_,k,W,a⟩;refine EK hK ?_;rcases E with _|E;exact EI a;rw [NT.eq_2]at a;refine Rc 6 (Wc z a ?_ ?_)
    ·intro a;refine Rc 7 (Ix a (Y.oj V) It HI ?_);rintro i _ a _ ⟨_,_,_,rfl,_,N0,O0⟩;obtain rfl:=FR N0;refine Yl z (FT (us:=[.string i.f,.i i.b,.i i.c]) z Vw O0 HI) (Ef z (AZ z MX) ?_);rintro _ _ ⟨_,rfl,_,_,k0,R⟩;have⟨P0,_⟩:=Et V k0;have k:=k.ext k0;refine Ro 1 (Ef z (DQ z R HI z z) ?_);rintro _ _ ⟨l0,R⟩;have⟨R0,_⟩:=Eu P0 l0;have k:=Zo (Am k W) l0;refine Ro 5 (Fl Ks AR R (Fl Is AR R (Ro 1 (Yl z (DS [.i (-1),.i j,.i i.c,.bool ((i.b==1))] z z SF Yz z) (Ef z (Aq C_place ([(Bi.mk (-1) j i.c ((i.b==1)))]) [[.i (-1),.i j,.i i.c,.bool ((i.b==1))]] z Pi TK z z ⟨SK,trivial⟩) ?_)))));rintro _ _ ⟨_,m0,_,_,n0,S0⟩;have⟨T0,_⟩:=Et R0 n0;have k:=k.ext n0;have T1:=BK m0;clear m0;have⟨U0,V0,a⟩:=AO a;refine Ef z (BA (c:=C_place) z Pi TK z z z z z k (by omega) (AC.slf S0 nr nr) V0) ?_;rintro W0 _ ⟨o0,p0⟩;have⟨X0,_⟩:=Ge T0 p0 W;have Y0:=HZ p0 o0 W;refine Ro 9 ?_;intro b hK;exact⟨E,nr,U0,W0,(wrap .i64 (j+1)),hK.sub z,X0,(by omega),o0,(fun d hg=>by have:=Y0 d hg;omega),a⟩
    ·intro a;cases CF a;exact Rc 12 (Ne z z ⟨_,z,_,z,AC.base k,V⟩)
def Lg(n:Nat)(a0:CW)(k0:Int->Option Bool):Nat->Int->Option Bool
 |0,_=>none
 |m+1,a=>cond (decide (a<(a0.b.length:Int))) ((AL a0.b a).bind fun d=>(cond (a==0) ((cond (d !=(-1)) (some true) ((AL a0.f 0).bind fun f=>some ((f !=0)))).bind fun b=>some b) (some false)).bind fun b=>(cond b (some true) ((cond (decide (a>0)) ((Ld n d 0 (wrap .i64 (a-1))).bind fun e=>some (!e)) (some false)).bind fun c=>some c)).bind fun c=>cond c (some false) (Lg n a0 k0 m (wrap .i64 (a+1)))) (k0 a)
def YB(n:Nat)(a0:CW):Option Bool:=Lg n a0 (fun a=>some true) n 0
theorem AaS{b:CW}{i:Bool}{j m o p:Value}(a:YB n b=some i)(E:H<=w.heap.size)(q:At cJ w H b.b j)(t:At cJ w H b.f m)(F:At cJ w H b.c o)(G:At cJ w H b.d p):
 Calls prog 131 [.agg #[j,m,o,p]].toArray w (Cf (.bool i) w):=by
 unfold YB at a;refine AE func131 z ntmps131 (Rc 2 (Ef z (AS z z) ?_));rintro _ u ⟨v,rfl,_,_,k,g⟩;have K:=k.size;refine Ro 6 (Gz GN Bn g Ak (q.oj k) (Ro 4 ?_));refine WC.loopD (fun d h wl=>∃e:Int,Kn 38 [(1,.p v),(6,j),(7,.i ((b.b.length:Int))),(8,.i e)] h∧AU u wl∧Lg n b (fun e=>(some true)) d e=some i) n ?_ ?_
 ·intro h f;exact⟨0,f.sub z,AU.refl _,a⟩
 ·rintro d h _ ⟨e,f,l,a⟩;refine EK f ?_;rcases d with _|d;exact EI a;rw [Lg.eq_2]at a;have⟨c,_⟩:=Et k l;have g:=g.ext l;refine Rc 6 (Wf a c ?_);intro a;refine Rc 7 (Il a (q.oj c) Ak Bb AR ?_);rintro _ a _;refine Ro 9 (Iz 10 [1,3,4,6,7,8] 25 15 a ?_ ?_)
  ·intro x a;refine Ro 3 (OD 6 [1,3,4,6,7,8,15,16,17,18] 24 18 a ?_ ?_)
   ·intro y a;refine Fl Hd Bn g (Il a (t.oj c) Ak Bb AR ?_);rintro _ a _;cases CF a;exact Ro 1 (Ro 1 (Fk))
   intro y a;cases CF a;exact Ro 1 (Fk)
  intro x a;refine Ro 1 (PI 10 [1,6,7,8] 36 26 a ?_ ?_)
  ·intro A a;refine Ro 3 (JD 6 [1,6,7,8,26,27,28,29] 35 29 a ?_ ?_)
   ·intro B a;refine Ro 3 (Cs a c IS (fun _=>Tu) ?_);rintro _ a _ C ⟨_,_⟩;cases CF a;exact Ro 1 (Ro 1 (Gj C))
   intro B a;intro T r;have⟨_,_⟩:=Et c r;cases CF a;exact Ro 1 (Gj r)
  intro A a;intro W s;have⟨D,_⟩:=Et c s;refine Ro 2 (Wt a D ?_);intro a;refine Rc 8 ?_;intro h f;exact⟨d,nr,(wrap .i64 (e+1)),f.sub z,(AU.trans l s),a⟩
def ZU(n:Nat)(a0:CW)(a1:Int):Option Bool:=(RM n a0.b).bind fun a=>(Ld n a 1 8).bind fun r=>(cond r ((RM n a0.f).bind fun i=>some ((i==a))) (some false)).bind fun l=>(cond l ((RM n a0.c).bind fun h=>some ((h==a))) (some false)).bind fun g=>(cond g ((YB n a0).bind fun e=>some e) (some false)).bind fun f=>(cond f ((Pz n a0.f 0 1000).bind fun p=>some p) (some false)).bind fun s=>(cond s ((Pz n a0.c 0 500).bind fun j=>some j) (some false)).bind fun o=>(cond o ((RM n a0.d).bind fun k=>some ((k==a1))) (some false)).bind fun d=>(cond d ((Pz n a0.d 0 (wrap .i64 (a-1))).bind fun c=>some c) (some false)).bind fun b=>some b
theorem AbW{e:CW}{q:Int}{r:Bool}{s t u v:Value}(a:ZU n e q=some r)(Z:H<=w.heap.size)(x:At cJ w H e.b s)(f:At cJ w H e.f t)(g:At cJ w H e.c u)(h:At cJ w H e.d v):
 Calls prog 89 [.agg #[s,t,u,v],.i q].toArray w (Cf (.bool r) w):=by
 unfold ZU at a;refine AE func89 z ntmps89 (Rc 2 (Ef z (AS z z) ?_));rintro _ _ ⟨_,rfl,_,_,i,b⟩;have e0:=i.size;refine Ro 5 (Fl GN Bn b ?_);refine Cs a i Sx (fun _ c=>(XZ c (by omega) (x.oj i):)) ?_;rintro _ a _ M ⟨N,_⟩;have b:=b.ext M;refine Ro 6 (Cs a N IS (fun _=>Tu) ?_);rintro _ a _ O ⟨j,_⟩;have b:=b.ext O;refine Ro 1 (JD 6 [1,2,5] 17 11 a ?_ ?_)
 ·intro P a;refine Fl Hd Bn b ?_;refine Cs a j Sx (fun _ c=>(XZ c (by omega) (f.oj j):)) ?_;rintro _ a _ y ⟨_,_⟩;have b:=b.ext y;cases CF a;exact Ro 2 (Ro 1 (Gj y))
 intro P a;intro p0 A;have⟨k,_⟩:=Et j A;have b:=b.ext A;refine Ro 1 (JD 6 [1,2,5] 24 18 a ?_ ?_)
 ·intro Q a;refine Fl Ik Bn b ?_;refine Cs a k Sx (fun _ c=>(XZ c (by omega) (g.oj k):)) ?_;rintro _ a _ B ⟨_,_⟩;have b:=b.ext B;cases CF a;exact Ro 2 (Ro 1 (Gj B))
 intro Q a;intro v0 C;have⟨d,_⟩:=Et k C;have b:=b.ext C;refine Ro 1 (JD 3 [1,2,5] 28 25 a ?_ ?_)
 ·intro R a;refine Yl z (Ci z Jf b Dk) ?_;refine Cs a d kL (fun _ c=>(AaS c (by omega) (x.oj d) (f.oj d) (g.oj d) (h.oj d):)) ?_;rintro _ a _ D ⟨_,_⟩;have b:=b.ext D;cases CF a;exact Ro 1 (Gj D)
 intro R a;intro B0 E;have⟨l,_⟩:=Et d E;have b:=b.ext E;refine Ro 1 (JD 4 [1,2,5] 33 29 a ?_ ?_)
 ·intro S a;refine Fl Hd Bn b ?_;refine Cs a l QM (fun _ c=>(Xg c (by omega) (f.oj l):)) ?_;rintro _ a _ F ⟨_,_⟩;have b:=b.ext F;cases CF a;exact Ro 1 (Gj F)
 intro S a;intro H0 G;have⟨m,_⟩:=Et l G;have b:=b.ext G;refine Ro 1 (JD 4 [1,2,5] 38 34 a ?_ ?_)
 ·intro T a;refine Fl Ik Bn b ?_;refine Cs a m QM (fun _ c=>(Xg c (by omega) (g.oj m):)) ?_;rintro _ a _ I ⟨_,_⟩;have b:=b.ext I;cases CF a;exact Ro 1 (Gj I)
 intro T a;intro N0 J;have⟨o,_⟩:=Et m J;have b:=b.ext J;refine Ro 1 (JD 6 [2,5] 45 39 a ?_ ?_)
 ·intro U a;refine Fl FM Bn b ?_;refine Cs a o Sx (fun _ c=>(XZ c (by omega) (h.oj o):)) ?_;rintro _ a _ K ⟨_,_⟩;have b:=b.ext K;cases CF a;exact Ro 2 (Ro 1 (Gj K))
 intro U a;intro T0 L;have⟨p,_⟩:=Et o L;have b:=b.ext L;refine Ro 1 (JD 6 [] 52 46 a ?_ ?_)
 ·intro V a;refine Fl FM Bn b (Ro 2 ?_);refine Cs a p QM (fun _ c=>(Xg c (by omega) (h.oj p):)) ?_;rintro _ a _ W ⟨_,_⟩;cases CF a;exact Ro 1 (Gj W)
 intro V a;intro Z0 X;have⟨Y,_⟩:=Et p X;exact GQ a Y
def Lv(n:Nat)(a0:AJ)(l52:List Int)(k2:Int->Option Bool):Nat->Int->Option Bool
 |0,_=>none
 |m+1,a=>cond (decide (a<(a0.c.length:Int))) ((AL a0.c a).bind fun c=>(AL l52 a).bind fun b=>(ZU n c b).bind fun d=>cond (!d) (some false) (Lv n a0 l52 k2 m (wrap .i64 (a+1)))) (k2 a)
def KM(r38:List Bi)(k0:Int->(List Int)->Option Bool):Nat->Int->(List Int)->Option Bool
 |0,_,_=>none
 |m+1,b,a=>cond (decide (b<(r38.length:Int))) ((AL r38 b).bind fun c=>cond (!c.d) ((AL a c.b).bind fun d=>(AL a c.b).bind fun e=>KM r38 k0 m (wrap .i64 (b+1)) ((a.set (c.b).toNat (wrap .i64 (d+1))))) (KM r38 k0 m (wrap .i64 (b+1)) a)) (k0 b a)
def cE(n:Nat)(a0:AJ):Option Bool:=(bT n a0.d a0.b).bind fun b=>cond ((!b)||((((a0.c.length:Int)) !=((a0.b.c.length:Int))))) (some false) ((Qw ((a0.c.length:Int)) 8).bind fun a=>(fK n a0.b).bind fun d=>KM d (fun f c=>Lv n a0 c (fun e=>some true) n 0) n 0 (List.replicate a 0))
theorem AbO{d:AJ}{B:Bool}{s h i j C:Value}(a:cE n d=some B)(hH:H<=w.heap.size)(j0:At C_Cell w H d.d.b s)(W:At C_Instance w H d.b.b h)(I:At Bc w H d.b.c i)(X:At C_Port w H d.b.d j)(D:At C_Wire w H d.c C):
 Calls prog 58 [.agg #[s,h,i,j,C]].toArray w (Cf (.bool B) w):=by
 unfold cE at a;refine AE func58 z ntmps58 (Rc 2 (Ef z (AS z z) ?_));rintro _ _ ⟨Y,rfl,_,_,k,c⟩;have T0:=k.size;refine Ro 6 (Yl z (CK z HG) (Yl z (FT (us:=[s]) z Mi (Ab.sub (BO.cells c) 0 1:Ab _ _ _ [s]) KV) (Yl z (CK z DR) (Yl z (FT (us:=[h,i,j]) z FB (Ab.sub (BO.cells c) 1 3:Ab _ _ _ [h,i,j]) EZ) ?_))));refine Cs a k uR (fun _ t=>(AaG t (by omega) (j0.oj k) (W.oj k) (I.oj k) (X.oj k):)) ?_;rintro _ a _ k0 ⟨u,_⟩;have c:=c.ext k0;refine Ro 2 (Sg 9 [1] 23 14 ((((d.c.length:Int)) !=((d.b.c.length:Int)))) z ?_ ?_)
 ·exact Gz ER Gu c Hw (D.oj u) (Yl z (CK z DR) (Yl z (CK z HO) (Yl z (Ea z LA c z) (Yl z (HK z Ez (I.oj u)) (Ro 2 (Fk))))))
 refine Ro 2 (Wt a u ?_);intro a;refine Rc 4 (Gz ER Gu c Hw (D.oj u) ?_);have⟨l0,m0,a⟩:=AO a;refine Ef z (GY (c:=cJ) (z:=0) z Ak DN z z z m0 z z (fun _=>z)) ?_;rintro J n0 ⟨o0,Z,_,_,a0,K⟩;have⟨E,_⟩:=Et u a0;have c:=c.ext a0;have F:=BK Z;clear Z;refine Ro 6 (Yl z (CK z DR) (Yl z (FT (us:=[h,i,j]) z FB (Ab.sub (BO.cells c) 1 3:Ab _ _ _ [h,i,j]) EZ) ?_));refine Cg a Tz (fun _ t=>(sM t (by omega) (W.oj E) (I.oj E) (X.oj E):)) ?_;rintro L a b0 p0 ⟨_,rfl,M,c0⟩;have⟨q0,_⟩:=Et E c0;have⟨c,K⟩:=Di c K c0;have d0:=AC.blk M;refine Yl z (Hm z Pi M) (Ro 4 ?_);have⟨r0,s0,a⟩:=MW a;refine WC.loopD (fun l e wl=>∃(v:Int) (m:List Int),Kn 63 [(1,.p Y),(3,J),(30,b0),(31,.i ((L.length:Int))),(32,.i v)] e∧AU w wl∧p0.heap.size<=wl.heap.size∧BO wl Y [s,h,i,j,C] 34∧AC cJ wl (o0) (Iv 0 0) 2 m J∧AC C_place wl (n0.heap.size) (Iv 0 0) 172 L b0∧KM L r0 l v m=some B) n ?_ ?_
 ·intro e hK;exact⟨0,(List.replicate l0 0),hK.sub z,q0,nr,c,K,M,a⟩
 ·rintro l e t0 ⟨v,m,hK,N,_,f,b,g,a⟩;refine EK hK ?_;rcases l with _|l;exact EI a;rw [KM.eq_2]at a;refine Rc 6 (Wc z a ?_ ?_)
  ·intro a;refine Rc 6 (Io a g Pi IU ?_);rintro x _ a _ ⟨_,_,rfl,_,u0,v0⟩;obtain rfl:=Hx u0;refine Yl z (FT (us:=[.i x.c,.i x.f,.i x.b,.bool x.d]) z Rt v0 IU) (Ef z (AZ z SF) ?_);rintro _ _ ⟨_,rfl,_,_,e0,G⟩;have⟨w0,_⟩:=Et N e0;have⟨f,b,g⟩:=FE f b g e0;refine Ef z (DQ z G IU z z) ?_;rintro _ _ ⟨f0,G⟩;have⟨g0,_⟩:=Eu w0 f0;have⟨f,b,g⟩:=Iw f (Am b F) (Am g d0) f0;refine Ro 4 (Fl Rk Gi G (Ro 3 (Wc z a ?_ ?_)))
   ·intro a;refine Rc 2 (Fl Ms AR G (PG a b Ak Bb AR ?_));rintro O a _;refine Ro 1 (Io a b Ak Bb ?_);rintro _ y0 a _ ⟨_,_,rfl,P,h0,z0⟩;have A0:=h0;obtain rfl:=h0;refine Ef z (Be (c:=cJ) (us':=[.i (wrap .i64 (O+1))]) (y':=wrap .i64 (O+1)) 0 _ z z z b P y0 z Bb z A0 z0 z z z (fun B0 t=>absurd t.2 (AV B0))) ?_;rintro _ _ ⟨Q,C0⟩;have:=F _ P;have⟨D0,_⟩:=Eu g0 Q;have f:=f.upd Q (by omega);have g:=g.upd Q (fun E0 hq=>by have:=d0 E0 hq;have:=F _ P;omega);refine Ro 8 ?_;intro e hK;exact⟨l,nr,(wrap .i64 (v+1)),((m.set (x.b).toNat (wrap .i64 (O+1)))),hK.sub z,D0,(by omega),f,C0,g,a⟩
   ·intro a;refine Rc 8 ?_;intro e hK;exact⟨l,nr,(wrap .i64 (v+1)),m,hK.sub z,g0,(by omega),f,b,g,a⟩
  ·intro a;refine Rc 3 ?_
   subst s0
   refine Re 5 (Gz ER Gu f Hw (D.oj N) (Ro 4 ?_));refine WC.loopD (fun y e wl=>∃A:Int,Kn 63 [(3,J),(48,C),(49,.i ((d.c.length:Int))),(50,.i A)] e∧AU t0 wl∧Lv n d m (fun A=>(some true)) y A=some B) n ?_ ?_
   ·intro e hK;exact⟨0,hK.sub z,AU.refl _,a⟩
   ·rintro y e _ ⟨A,hK,R,a⟩;refine EK hK ?_;rcases y with _|y;exact EI a;rw [Lv.eq_2]at a;have⟨S,_⟩:=Et N R;have b:=b.ext R;refine Rc 6 (Wf a S ?_);intro a;refine Rc 7 (Ix a (D.oj S) Hw Dk ?_);rintro _ _ a _ ⟨_,_,_,rfl,_,F0,G0⟩;obtain⟨H0,I0,J0,K0,rfl,o,p,q,r⟩:=Dc F0;refine Yl z (FT (us:=[H0,I0,J0,K0]) z Jf G0 Dk) (Ef z (AZ z Ki) ?_);rintro _ _ ⟨_,rfl,_,_,T,U⟩;have⟨L0,_⟩:=Et S T;have⟨o,p,q,r,b⟩:=Gw o p q r b T;refine Ro 1 (Ef z (DQ z U Dk (AB (AF.one o) (AB (AF.one p) (AB (AF.one q) (AB (AF.one r) BC)))) z) ?_);rintro _ _ ⟨V,U⟩;have⟨N0,_⟩:=Eu L0 V;have⟨o,p,q,r,b⟩:=NL o p q r (Am b F) V;refine Ro 3 (DH Tryz.hm (Qy z (Ci z Jf U Dk) (Qr 2 (XT a b Ak Bb AR ?_))));rintro _ a _;have⟨_,O0,a⟩:=AO a;refine Ql z (MT z qK fun w' hw'=>(AbW O0 (Ar (by omega) (hw').size) (o.old hw' (by omega)) (p.old hw' (by omega)) (q.old hw' (by omega)) (r.old hw' (by omega)):)) ?_;refine Qr 1 ?_;refine QL.done fun J1 i0=>?_;have⟨P0,_⟩:=Et N0 i0;refine Re 1 (Wt a P0 ?_);intro a;refine Rc 8 ?_;intro e hK;exact⟨y,nr,(wrap .i64 (A+1)),hK.sub z,(AU.trans (Eu (AU.trans R T) V).1 i0),a⟩
def ZD(n:Nat)(a0:CJ):Option (List ET):=cond (a0.b==2) (some ([(ET.mk 0 0),(ET.mk 0 1)])) (cond (a0.b==3) (some ([(ET.mk 1 0),(ET.mk 1 1)])) (cond (a0.b !=1) (some (([]:List ET))) (cond (a0.g==1) (some ([(ET.mk 0 0),(ET.mk 1 1)])) (cond (a0.g==2) (some ([(ET.mk 0 1),(ET.mk 1 0)])) (some ([(ET.mk 0 0),(ET.mk 0 1),(ET.mk 1 0),(ET.mk 1 1)]))))))
theorem xB{b:CJ}{f:List ET}{g h:Value}(hF:ZD n b=some f)(hH:H<=w.heap.size)(G:At C_Table w H b.h g)(I:At C_Table w H b.f h):
 Calls prog 133 [.agg #[.i b.b,.i b.d,.i b.c,.i b.g,g,h]].toArray w (Fu fun v i=>∃j,v=j∧AC C_A2_Int i w.heap.size (Iv 0 0) 214 f j∧AU w i):=by
 unfold ZD at hF;refine AE func133 z ntmps133 (Rc 2 (Ef z (AS z z) ?_));rintro _ _ ⟨_,rfl,_,_,k,a⟩;have N:=k.size;refine Ro 5 (Yl z (DS [.i 0,.i 0] z z IW JJ z) (Yl z (DS [.i 1,.i 1] z z IW JJ z) (Ef z (Aq C_A2_Int ([(ET.mk 0 0),(ET.mk 1 1)]) [[.i 0,.i 0],[.i 1,.i 1]] z RS SG z z ⟨Ew,Ew,trivial⟩) ?_)));rintro _ _ ⟨_,l,_,_,m,c⟩;have⟨x,_⟩:=Et k m;have a:=a.ext m;have U:=BK l;clear l;refine Ro 5 (Yl z (DS [.i 0,.i 1] z z IW JJ z) (Yl z (DS [.i 1,.i 0] z z IW JJ z) (Ef z (Aq C_A2_Int ([(ET.mk 0 1),(ET.mk 1 0)]) [[.i 0,.i 1],[.i 1,.i 0]] z RS SG z z ⟨Ew,Ew,trivial⟩) ?_)));rintro _ _ ⟨_,o,_,_,p,e⟩;have⟨d,_⟩:=Et x p;have⟨a,c⟩:=Di a c p;have b0:=BK o;clear o;refine Ro 7 (Fl EX AR a (Ro 4 (Wc z hF ?_ ?_)))
 ·intro hF;refine Rc 2 (Yl z (DS [.i 0,.i 0] z z IW JJ z) (Yl z (DS [.i 0,.i 1] z z IW JJ z) (Ef z (Aq C_A2_Int ([(ET.mk 0 0),(ET.mk 0 1)]) [[.i 0,.i 0],[.i 0,.i 1]] z RS SG z z ⟨Ew,Ew,trivial⟩) ?_)));rintro _ _ ⟨_,q,_,_,r,y⟩;have⟨A,_⟩:=Et d r;have⟨a,c,e⟩:=FE a c e r;have i0:=BK q;clear q;cases CF hF;exact Ro 6 (Ne z z ⟨_,z,_,z,AC.base y,A⟩)
 ·intro hF;refine Rc 2 (Fl EX AR a (Ro 4 (Wc z hF ?_ ?_)))
  ·intro hF;refine Rc 2 (Yl z (DS [.i 1,.i 0] z z IW JJ z) (Yl z (DS [.i 1,.i 1] z z IW JJ z) (Ef z (Aq C_A2_Int ([(ET.mk 1 0),(ET.mk 1 1)]) [[.i 1,.i 0],[.i 1,.i 1]] z RS SG z z ⟨Ew,Ew,trivial⟩) ?_)));rintro _ _ ⟨_,s,_,_,t,B⟩;have⟨C,_⟩:=Et d t;have⟨a,c,e⟩:=FE a c e t;have p0:=BK s;clear s;cases CF hF;exact Ro 6 (Ne z z ⟨_,z,_,z,AC.base B,C⟩)
  ·intro hF;refine Rc 2 (Fl EX AR a (Ro 4 (Wc z hF ?_ ?_)))
   ·intro hF;cases CF hF;exact Rc 8 (Ne z z ⟨_,z,_,z,AC.nil _ _ _ _ _,d⟩)
   ·intro hF;refine Rc 2 (Fl IB AR a (Ro 4 (Wc z hF ?_ ?_)))
    ·intro hF;cases CF hF;exact Rc 9 (Ne z z ⟨_,z,_,z,AC.base c,d⟩)
    ·intro hF;refine Rc 2 (Fl IB AR a (Ro 4 (Wc z hF ?_ ?_)))
     ·intro hF;cases CF hF;exact Rc 9 (Ne z z ⟨_,z,_,z,AC.base e,d⟩)
     ·intro hF;refine Rc 5 (Yl z (DS [.i 0,.i 0] z z IW JJ z) (Yl z (DS [.i 0,.i 1] z z IW JJ z) (Yl z (DS [.i 1,.i 0] z z IW JJ z) (Yl z (DS [.i 1,.i 1] z z IW JJ z) (Ef z (Aq C_A2_Int ([(ET.mk 0 0),(ET.mk 0 1),(ET.mk 1 0),(ET.mk 1 1)]) [[.i 0,.i 0],[.i 0,.i 1],[.i 1,.i 0],[.i 1,.i 1]] z RS SG z z ⟨Ew,Ew,Ew,Ew,trivial⟩) ?_)))));rintro _ _ ⟨_,u,_,_,D,E⟩;have⟨F,_⟩:=Et d D;have w0:=BK u;clear u;cases CF hF;exact Ro 4 (Ne z z ⟨_,z,_,z,AC.base E,F⟩)
def NM(a2:Int)(i50:Int)(x53:CJ)(r78:List ET)(k2:(List Ad)->Int->Option (List Ad)):Nat->(List Ad)->Int->Option (List Ad)
 |0,_,_=>none
 |m+1,d,a=>cond (decide (a<(r78.length:Int))) ((AL r78 a).bind fun b=>(De d ([(Ad.mk (wrap .i64 ((wrap .i64 (2*(wrap .i64 (a2+x53.d))))+b.e0)) (wrap .i64 ((wrap .i64 (2*(wrap .i64 (a2+x53.c))))+b.e1)) 1 i50)]) 32).bind fun c=>NM a2 i50 x53 r78 k2 m c (wrap .i64 (a+1))) (k2 d a)
def Kk(n:Nat)(a2:Int)(x26:BL)(k0:(List Ad)->Int->Option (List Ad)):Nat->(List Ad)->Int->Option (List Ad)
 |0,_,_=>none
 |m+1,b,a=>cond (decide (a<(x26.c.length:Int))) ((AL x26.c a).bind fun c=>(ZD n c).bind fun e=>NM a2 a c e (fun d f=>Kk n a2 x26 k0 m d (wrap .i64 (a+1))) n b 0) (k0 b a)
def pD(n:Nat)(a0:AJ)(a1:BI)(a2:Int):Option (List Ad):=(AL a0.d.b a1.b).bind fun b=>Kk n a2 b (fun a c=>some a) n (([]:List Ad)) 0
theorem W_m{x:AJ}{F:BI}{c:Int}{G:List Ad}{V W X Y Z a0:Value}(a:pD n x F c=some G)(hH:H<=w.heap.size)(t0:At C_Cell w H x.d.b V)(a1:At C_Instance w H x.b.b W)(b1:At Bc w H x.b.c X)(c1:At C_Port w H x.b.d Y)(d1:At C_Wire w H x.c Z)(e1:At cJ w H F.c a0):
 Calls prog 90 [.agg #[V,W,X,Y,Z],.agg #[.string F.f,.i F.b,a0],.i c].toArray w (Fu fun u0 b0=>∃c0,u0=c0∧AC C_Link b0 w.heap.size (Iv 0 0) 162 G c0∧AU w b0):=by
 unfold pD at a;refine AE func90 z ntmps90 (Rc 2 (Ef z (AS z z) ?_));rintro _ _ ⟨_,rfl,_,_,d0,O⟩;have j1:=d0.size;refine Ef z (AS z z) ?_;rintro _ h ⟨_,rfl,_,_,e0,v0⟩;have⟨f0,_⟩:=Et d0 e0;have O:=O.ext e0;refine Ro 11 (Yl z (CK z HG) (Yl z (CK z Ej) (Yl z (Ea z HJ O z) (Fl FC AR v0 (Ix a (t0.oj f0) JH By ?_)))));rintro B _ a _ ⟨_,_,_,rfl,_,w0,x0⟩;obtain⟨_,I,_,rfl,_,g0,_⟩:=DU w0;refine Fc Da Fm x0 (Yl z (HK z EB g0) (Ro 4 ?_));have y0:AC C_Link h (h.heap.size) (Iv 0 0) 162 [] (.slice none 0 0):=AC.nil _ _ _ _ _;have z0:Bd (Value.slice none 0 0) h.heap.size h.heap.size:=Hp;refine WC.loopD (fun C i wl=>∃(y:List Ad) (D:Value) (d:Int),Kn 57 [(2,.i c),(7,D),(19,I),(20,.i ((B.c.length:Int))),(21,.i d)] i∧AU w wl∧h.heap.size<=wl.heap.size∧AF C_Arc wl (Iv 0 H) B.c I∧AC C_Link wl (h.heap.size) (Iv 0 0) 162 y D∧Bd D h.heap.size wl.heap.size∧Kk n c B (fun y d=>(some y)) C y d=some G) n ?_ ?_
 ·intro i hK;exact⟨(([]:List Ad)),((.slice none 0 0)),0,hK.sub z,f0,nr,g0,y0,(fun t hg=>by have:=z0 t hg;omega),a⟩
 ·rintro C i _ ⟨y,D,d,hK,h0,_,p,q,J,a⟩;refine EK hK ?_;rcases C with _|C;exact EI a;rw [Kk.eq_2]at a;refine Rc 6 (Wc z a ?_ ?_)
  ·intro a;refine Rc 7 (Ix a p EB Ct ?_);rintro b _ a _ ⟨_,_,_,rfl,_,A0,B0⟩;obtain⟨P,Q,rfl,j,k⟩:=Cx A0;refine Yl z (FT (us:=[.i b.b,.i b.d,.i b.c,.i b.g,P,Q]) z Gv B0 Ct) (Ef z (AZ z HU) ?_);rintro _ _ ⟨K,rfl,_,_,i0,A⟩;have⟨C0,_⟩:=Et h0 i0;have⟨p,j,k,q⟩:=Gp p j k q i0;refine Ro 1 (Ef z (DQ z A Ct (AB z (AB z (AB z (AB z (AB (AF.one j) (AB (AF.one k) BC)))))) z) ?_);rintro _ D0 ⟨j0,A⟩;have⟨F0,_⟩:=Eu C0 j0;have⟨p,j,k,q⟩:=Jq p j k (Am q J) j0;refine Ro 4 (Yl z (Ci z Gv A Ct) ?_);refine Cg a lB (fun _ G0=>(xB G0 (by omega) j k:)) ?_;rintro R a S H0 ⟨_,rfl,T,k0⟩;have⟨I0,_⟩:=Et F0 k0;have⟨A,p,j,k,q⟩:=Gw A p j k q k0;have U:=AC.blk T;refine Yl z (Hm z RS T) (Ro 4 ?_);have⟨J0,K0,a⟩:=MW a;refine WC.loopD (fun E i wl=>∃(L:List Ad) (u:Value) (M:Int),Kn 57 [(2,.i c),(7,u),(8,.i d),(9,.p K),(19,I),(20,.i ((B.c.length:Int))),(21,.i d),(27,S),(28,.i ((R.length:Int))),(29,.i M)] i∧AU w wl∧H0.heap.size<=wl.heap.size∧BO wl K [.i b.b,.i b.d,.i b.c,.i b.g,P,Q] 73∧AF C_Arc wl (Iv 0 H) B.c I∧AF C_Table wl (Iv 0 H) b.h P∧AF C_Table wl (Iv 0 H) b.f Q∧AC C_Link wl (h.heap.size) (Iv 0 0) 162 L u∧Bd u h.heap.size wl.heap.size∧AC C_A2_Int wl (D0.heap.size) (Iv 0 0) 214 R S∧Nb u K∧No u S∧NM c d b R J0 E L M=some G) n ?_ ?_
   ·intro i hK;exact⟨y,D,0,hK.sub z,I0,nr,A,p,j,k,q,(fun t hg=>by have:=J t hg;omega),T,(Nb.of J),(No.of J U),a⟩
   ·rintro E i _ ⟨L,u,M,hK,l0,_,e,f,l,m,r,v,g,m0,L0,a⟩;refine EK hK ?_;rcases E with _|E;exact EI a;rw [NM.eq_2]at a;refine Rc 6 (Wc z a ?_ ?_)
    ·intro a;refine Rc 6 (Io a g RS VU ?_);rintro s _ a _ ⟨_,_,rfl,_,M0,N0⟩;obtain rfl:=SU M0;refine Yl z (FT (us:=[.i s.e0,.i s.e1]) z jX N0 VU) (Ef z (AZ z IW) ?_);rintro _ _ ⟨_,rfl,_,_,n0,N⟩;have⟨O0,_⟩:=Et l0 n0;have⟨e,f,l,m,r,g⟩:=JQ e f l m r g n0;refine Ef z (DQ z N VU z z) ?_;rintro _ _ ⟨o0,N⟩;have⟨Q0,_⟩:=Eu O0 o0;have⟨e,f,l,m,r,g⟩:=Ve e f l m (Am r v) (Am g U) o0;refine Ro 5 (Fl GJ AR e (Ro 2 (Yl z (PV z iZ Bb z z (by decide)) (Yl z (Ea z AR N z) (Ro 2 (Fl GV AR e (Ro 2 (Yl z (PV z iZ Bb z z (by decide)) (Yl z (Ea z AR N z) (Ro 2 (Yl z (DS [.i (wrap .i64 ((wrap .i64 (2*(wrap .i64 (c+b.d))))+s.e0)),.i (wrap .i64 ((wrap .i64 (2*(wrap .i64 (c+b.c))))+s.e1)),.i 1,.i d] z z TO Vm z) (Ef z (Aq C_Link ([(Ad.mk (wrap .i64 ((wrap .i64 (2*(wrap .i64 (c+b.d))))+s.e0)) (wrap .i64 ((wrap .i64 (2*(wrap .i64 (c+b.c))))+s.e1)) 1 d)]) [[.i (wrap .i64 ((wrap .i64 (2*(wrap .i64 (c+b.d))))+s.e0)),.i (wrap .i64 ((wrap .i64 (2*(wrap .i64 (c+b.c))))+s.e1)),.i 1,.i d]] z Iy My z z ⟨QP,trivial⟩) ?_))))))))))));rintro _ _ ⟨_,p0,_,_,q0,R0⟩;have⟨S0,_⟩:=Et Q0 q0;have⟨e,f,l,m,r,g⟩:=JQ e f l m r g q0;have d2:=BK p0;clear p0;have⟨T0,U0,a⟩:=AO a;refine Ef z (BA (c:=C_Link) z Iy My z z z z z r (by omega) (AC.slf R0 nr nr) U0) ?_;rintro V0 _ ⟨r0,o⟩;have⟨W0,_⟩:=Ge S0 o v;have X0:Nb _ K:=Gb o m0;have e:=Ah.box o e m0;have f:=Ah.slr o f (Ns.of v);have l:=Ah.slr o l (Ns.of v);have m:=Ah.slr o m (Ns.of v);have s0:=L0;have Y0:=Gn o s0 U;have g:=Ah.ownF o g s0;have Z0:=HZ o r0 v;refine Ro 9 ?_;intro i hK;exact⟨E,nr,T0,V0,(wrap .i64 (M+1)),hK.sub z,W0,(by omega),e,f,l,m,r0,(fun t hg=>by have:=Z0 t hg;omega),g,X0,Y0,a⟩
    ·intro a;refine Rc 3 ?_
     subst K0
     refine Re 8 ?_;intro i hK;exact⟨C,nr,L,u,(wrap .i64 (d+1)),hK.sub z,l0,(by omega),f,r,(fun t hg=>by have:=v t hg;omega),a⟩
  ·intro a;cases CF a;exact Rc 12 (Ne z z ⟨_,z,_,z,AC.base q,h0⟩)
def Jv(a1:Int)(r13:List Bi)(k0:(List Int)->Int->Option (List Int)):Nat->(List Int)->Int->Option (List Int)
 |0,_,_=>none
 |m+1,b,a=>cond (decide (a<(r13.length:Int))) ((AL r13 a).bind fun c=>cond (((c.b==a1))&&(!c.d)) ((De b [a] 8).bind fun d=>Jv a1 r13 k0 m d (wrap .i64 (a+1))) (Jv a1 r13 k0 m b (wrap .i64 (a+1)))) (k0 b a)
def Ya(n:Nat)(a0:Ae)(a1:Int):Option (List Int):=(fK n a0).bind fun b=>Jv a1 b (fun a c=>some a) n (([]:List Int)) 0
theorem wM{m:Ae}{o:Int}{s:List Int}{y A B:Value}(a:Ya n m o=some s)(hH:H<=w.heap.size)(P:At C_Instance w H m.b y)(Q:At Bc w H m.c A)(R:At C_Port w H m.d B):
 Calls prog 135 [.agg #[y,A,B],.i o].toArray w (Fu fun S C=>∃D,S=D∧AC cJ C w.heap.size (Iv 0 0) 2 s D∧AU w C):=by
 unfold Ya at a;refine AE func135 z ntmps135 (Rc 2 (Ef z (AS z z) ?_));rintro _ T ⟨_,rfl,_,_,i,U⟩;have o0:=i.size;refine Ro 11 (Yl z (Ci z FB U EZ) ?_);refine Cg a Tz (fun _ V=>(sM V (by omega) (P.oj i) (Q.oj i) (R.oj i):)) ?_;rintro t a u e ⟨_,rfl,v,W⟩;have⟨X,_⟩:=Et i W;have x:=AC.blk v;refine Yl z (Hm z Pi v) (Ro 4 ?_);have Y:AC cJ e (e.heap.size) (Iv 0 0) 2 [] (.slice none 0 0):=AC.nil _ _ _ _ _;have E:Bd (Value.slice none 0 0) e.heap.size e.heap.size:=Hp;refine WC.loopD (fun f j wl=>∃(g:List Int) (h:Value) (d:Int),Kn 31 [(1,.i o),(5,h),(9,u),(10,.i ((t.length:Int))),(11,.i d)] j∧AU w wl∧e.heap.size<=wl.heap.size∧AC cJ wl (e.heap.size) (Iv 0 0) 2 g h∧Bd h e.heap.size wl.heap.size∧AC C_place wl (T.heap.size) (Iv 0 0) 172 t u∧No h u∧Jv o t (fun g d=>(some g)) f g d=some s) n ?_ ?_
 ·intro j hK;exact⟨(([]:List Int)),((.slice none 0 0)),0,hK.sub z,X,nr,Y,(fun k hg=>by have:=E k hg;omega),v,(No.of E x),a⟩
 ·rintro f j _ ⟨g,h,d,hK,F,_,c,p,b,G,a⟩;refine EK hK ?_;rcases f with _|f;exact EI a;rw [Jv.eq_2]at a;refine Rc 6 (Wc z a ?_ ?_)
  ·intro a;refine Rc 7 (Io a b Pi IU ?_);rintro l _ a _ ⟨_,_,rfl,_,Z,a0⟩;obtain rfl:=Hx Z;refine Yl z (FT (us:=[.i l.c,.i l.f,.i l.b,.bool l.d]) z Rt a0 IU) (Ef z (AZ z SF) ?_);rintro _ _ ⟨_,rfl,_,_,I,q⟩;have⟨b0,_⟩:=Et F I;have⟨c,b⟩:=Di c b I;refine Ro 1 (Ef z (DQ z q IU z z) ?_);rintro _ _ ⟨J,q⟩;have⟨K,_⟩:=Eu b0 J;have⟨c,b⟩:=PH (Am c p) (Am b x) J;refine Ro 4 (Fl Ms AR q (Ro 3 (Oz 4 [1,5,6,9,10,11] 24 20 (!l.d) z ?_ ?_)))
   ·exact Fl Rk Gi q (Ro 2 (Fk))
   refine Ro 2 (Wc z a ?_ ?_)
   ·intro a;refine Rc 3 (Ef z (Aq cJ [d] [[.i d]] z Ak DN z z ⟨z,trivial⟩) ?_);rintro _ _ ⟨_,L,_,_,M,d0⟩;have⟨e0,_⟩:=Et K M;have⟨c,b⟩:=Di c b M;have J0:=BK L;clear L;have⟨f0,g0,a⟩:=AO a;refine Ef z (BA (c:=cJ) z Ak DN z z z z z c (by omega) (AC.slf d0 nr nr) g0) ?_;rintro h0 _ ⟨N,r⟩;have⟨i0,_⟩:=Ge e0 r p;have O:=G;have j0:=Gn r O x;have b:=Ah.ownF r b O;have k0:=HZ r N p;refine Ro 9 ?_;intro j hK;exact⟨f,nr,f0,h0,(wrap .i64 (d+1)),hK.sub z,i0,(by omega),N,(fun k hg=>by have:=k0 k hg;omega),b,j0,a⟩
   ·intro a;refine Rc 8 ?_;intro j hK;exact⟨f,nr,g,h,(wrap .i64 (d+1)),hK.sub z,K,(by omega),c,(fun k hg=>by have:=p k hg;omega),b,G,a⟩
  ·intro a;cases CF a;exact Rc 12 (Ne z z ⟨_,z,_,z,AC.base c,F⟩)
def Yg(n:Nat)(a0:Ae)(a1:BT)(a2:Bi):Option Int:=cond (decide (a2.c<0)) (some 0) ((AL a0.b a2.c).bind fun a=>(AL a1.b a.b).bind fun b=>(AL b.d a2.f).bind fun c=>some c.c)
theorem AbD{d:Ae}{h:BT}{b:Bi}{i:Int}{j k l m:Value}(a:Yg n d h b=some i)(F:H<=w.heap.size)(r:At C_Instance w H d.b j)(G:At Bc w H d.c k)(I:At C_Port w H d.d l)(s:At C_Cell w H h.b m):
 Calls prog 136 [.agg #[j,k,l],.agg #[m],.agg #[.i b.c,.i b.f,.i b.b,.bool b.d]].toArray w (Cf (.i i) w):=by
 unfold Yg at a;refine AE func136 z ntmps136 (Rc 2 (Ef z (AS z z) ?_));rintro _ _ ⟨_,rfl,_,_,o,c⟩;have N:=o.size;refine Ef z (AS z z) ?_;rintro _ _ ⟨_,rfl,_,_,p,f⟩;have⟨t,_⟩:=Et o p;have c:=c.ext p;refine Ef z (AS z z) ?_;rintro _ _ ⟨_,rfl,_,_,q,g⟩;have⟨e,_⟩:=Et t q;have⟨c,f⟩:=Di c f q;refine Ro 6 (Fl Rp AR g (Ro 3 (Wt a e ?_)));intro a;refine Rc 3 (DH Tryz.hm (Fq Ej HJ f (Fq Dz GR c (Fq Rp AR g (Iq a (r.oj e) Gg Dj ?_)))));rintro _ _ a _ ⟨_,_,_,rfl,_,u,v⟩;obtain⟨_,rfl,_⟩:=Bz u;refine JC FC AR v (Iq a (s.oj e) JH By ?_);rintro _ _ a _ ⟨_,_,_,rfl,_,x,y⟩;obtain⟨_,_,_,rfl,A,_,_⟩:=DU x;refine JC Eg Gy y (Fq UM AR g (Iq a A GC Gq ?_));rintro _ _ a _ ⟨_,_,_,rfl,_,B,C⟩;obtain rfl:=Fg B;refine JC LF AR C (Qr 1 ?_);refine QL.done fun x0 D=>?_;have⟨E,_⟩:=Et e D;exact UO a E
def Ol(x17:CW)(k2:Int->(List Int)->Option (List Int)):Nat->Int->(List Int)->Option (List Int)
 |0,_,_=>none
 |m+1,a,c=>cond (decide (a>0)) ((AL x17.b a).bind fun b=>(AL c b).bind fun d=>(AL c a).bind fun e=>(AL c b).bind fun f=>Ol x17 k2 m (wrap .i64 (a-1)) ((c.set (b).toNat (wrap .i64 (d+e))))) (k2 a c)
def OX(n:Nat)(a0:AJ)(x17:CW)(r56:List Bi)(r66:List Int)(k0:Int->(List Int)->Option (List Int)):Nat->Int->(List Int)->Option (List Int)
 |0,_,_=>none
 |m+1,a,b=>cond (decide (a<(r66.length:Int))) ((AL r66 a).bind fun g=>(AL x17.d a).bind fun c=>(AL b c).bind fun d=>(AL r56 g).bind fun f=>(Yg n a0.b a0.d f).bind fun e=>(AL b c).bind fun h=>OX n a0 x17 r56 r66 k0 m (wrap .i64 (a+1)) ((b.set (c).toNat (wrap .i64 (d+e))))) (k0 a b)
def oP(n:Nat)(a0:AJ)(a1:Int):Option (List Int):=(AL a0.c a1).bind fun a=>(gW n a.c).bind fun c=>(fK n a0.b).bind fun d=>(Ya n a0.b a1).bind fun e=>OX n a0 a d e (fun g b=>Ol a (fun h f=>some f) n (wrap .i64 (((b.length:Int))-1)) b) n 0 c
theorem W_w{A:AJ}{u0:Int}{U:List Int}{I j k l g0:Value}(hF:oP n A u0=some U)(hH:H<=w.heap.size)(R0:At C_Cell w H A.d.b I)(h0:At C_Instance w H A.b.b j)(i0:At Bc w H A.b.c k)(j0:At C_Port w H A.b.d l)(S0:At C_Wire w H A.c g0):
 Calls prog 92 [.agg #[I,j,k,l,g0],.i u0].toArray w (Fu fun T0 v0=>∃w0,T0=w0∧AC cJ v0 w.heap.size (Iv 0 0) 2 U w0∧AU w v0):=by
 unfold oP at hF;refine AE func92 z ntmps92 (Rc 2 (Ef z (AS z z) ?_));rintro _ _ ⟨x0,rfl,_,_,k0,b⟩;have R1:=k0.size;refine Ro 5 (Fl ER Gu b (Ro 1 (Ix hF (S0.oj k0) Hw Dk ?_)));rintro h _ hF _ ⟨_,_,_,rfl,_,U0,V0⟩;obtain⟨J,K,L,M,rfl,d,e,c,f⟩:=Dc U0;refine Yl z (FT (us:=[J,K,L,M]) z Jf V0 Dk) (Ef z (AZ z Ki) ?_);rintro _ _ ⟨V,rfl,_,_,y0,i⟩;have⟨W0,_⟩:=Et k0 y0;have⟨b,d,e,c,f⟩:=Gw b d e c f y0;refine Ef z (DQ z i Dk (AB (AF.one d) (AB (AF.one e) (AB (AF.one c) (AB (AF.one f) BC)))) z) ?_;rintro _ z0 ⟨A0,i⟩;have⟨Y0,_⟩:=Eu W0 A0;have⟨b,d,e,c,f⟩:=NL b d e c f A0;refine Ro 4 (Fl Ik Bn i ?_);refine Cg hF jY (fun _ m=>(xJ m (by omega) c:)) ?_;rintro Z0 hF W a1 ⟨_,rfl,C,B0⟩;have⟨X,_⟩:=Et Y0 B0;have⟨b,i,d,e,c,f⟩:=JQ b i d e c f B0;have Y:=AC.blk C;refine Ro 5 (Yl z (CK z DR) (Yl z (FT (us:=[j,k,l]) z FB (Ab.sub (BO.cells b) 1 3:Ab _ _ _ [j,k,l]) EZ) ?_));refine Cg hF Tz (fun _ m=>(sM m (by omega) (h0.oj X) (i0.oj X) (j0.oj X):)) ?_;rintro C0 hF D0 b1 ⟨_,rfl,Z,E0⟩;have⟨a0,_⟩:=Et X E0;have⟨b,i,d,e,c,f,C⟩:=MV b i d e c f C E0;have c1:=AC.blk Z;refine Ro 6 (Yl z (CK z DR) (Yl z (FT (us:=[j,k,l]) z FB (Ab.sub (BO.cells b) 1 3:Ab _ _ _ [j,k,l]) EZ) (Ro 1 ?_)));refine Cg hF mO (fun _ m=>(wM m (by omega) (h0.oj a0) (i0.oj a0) (j0.oj a0):)) ?_;rintro l0 hF F0 d1 ⟨_,rfl,m0,G0⟩;have⟨e1,_⟩:=Et a0 G0;have⟨b,i,d,e,c,f,C,Z⟩:=GT b i d e c f C Z G0;have f1:=AC.blk m0;refine Yl z (Hm z Ak m0) (Ro 4 ?_);have⟨g1,h1,hF⟩:=MW hF;refine WC.loopD (fun N o wl=>∃(b0:Int) (D:List Int),Kn 74 [(2,.p x0),(5,.p V),(6,W),(7,D0),(25,F0),(26,.i ((l0.length:Int))),(27,.i b0)] o∧AU w wl∧d1.heap.size<=wl.heap.size∧BO wl x0 [I,j,k,l,g0] 34∧BO wl V [J,K,L,M] 124∧AF cJ wl (Iv 0 H) h.b J∧AF cJ wl (Iv 0 H) h.f K∧AF cJ wl (Iv 0 H) h.c L∧AF cJ wl (Iv 0 H) h.d M∧AC cJ wl (z0.heap.size) (Iv 0 0) 2 D W∧AC C_place wl (a1.heap.size) (Iv 0 0) 172 C0 D0∧AC cJ wl (b1.heap.size) (Iv 0 0) 2 l0 F0∧OX n A h C0 l0 g1 N b0 D=some U) n ?_ ?_
 ·intro o hK;exact⟨0,Z0,hK.sub z,e1,nr,b,i,d,e,c,f,C,Z,m0,hF⟩
 ·rintro N o i1 ⟨b0,D,hK,H0,_,p,q,t,u,v,r,s,x,y,hF⟩;refine EK hK ?_;rcases N with _|N;exact EI hF;rw [OX.eq_2]at hF;refine Rc 6 (Wc z hF ?_ ?_)
  ·intro hF;refine Rc 7 (PG hF y Ak Bb AR ?_);rintro _ hF _;have⟨j1,k1,hF⟩:=AO hF;have⟨n0,l1,hF⟩:=AO hF;have⟨c0,m1,hF⟩:=AO hF;have⟨o0,n1,hF⟩:=AO hF;have⟨_,I0,hF⟩:=AO hF;refine Ro 4 ?_;refine Du 17 Tryz.hm fun J0 p0 a=>?_;have⟨O,_⟩:=Et H0 p0;have⟨p,q,t,u,v⟩:=Gw p q t u v p0;have⟨r,s,x,y⟩:=Gp r s x y p0;refine Fw a [0] (Br 1 a z (CK z FM) (Br 2 a z (Ea z Bn q z) (Fw a [3] (HT 4 a z (JB z Ak Bb r k1) ?_))));rintro _ ⟨_,_,_,rfl,_,rfl,o1⟩;refine Br 5 a z (GB 0 z AR o1 z z) (HT 6 a z (Lp z Ak Bb s l1) ?_);rintro _ ⟨_,_,rfl,_,p1,q1⟩;obtain rfl:=p1;refine Br 7 a z (GB 0 z AR q1 z z) (Br 8 a z (CK z DR) (Br 9 a z (FT (us:=[j,k,l]) z FB (Ab.sub (BO.cells p) 1 3:Ab _ _ _ [j,k,l]) EZ) (Br 10 a z (CK z HG) (Br 11 a z (FT (us:=[I]) z Mi (Ab.sub (BO.cells p) 0 1:Ab _ _ _ [I]) KV) (Fw a [12,13] (HT 14 a z (Lp z Pi IU x m1) ?_))))));rintro _ ⟨_,_,rfl,_,r1,s1⟩;obtain rfl:=Hx r1;refine Br 15 a z (FT (us:=[.i c0.c,.i c0.f,.i c0.b,.bool c0.d]) z Rt s1 IU) (LK 16 z (GO z nX (AbD n1 (by omega) (h0.oj O) (i0.oj O) (j0.oj O) (R0.oj O):)) ?_);rintro _ t1 ⟨rfl,d0⟩;have u1:AU J0 t1:=AU.trans (AU.refl J0) d0;have⟨v1,_⟩:=Et O d0;have⟨p,q,r,t,u⟩:=Gw p q r t u d0;have⟨v,s,x,y⟩:=Gp v s x y d0;refine⟨u1,?_⟩;refine JN z (Tr 1 (Ye z (Lp z Ak Bb s I0) ?_));rintro _ ⟨_,_,rfl,e0,K0,w1⟩;have x1:=K0;obtain rfl:=K0;refine Ef z (Be (c:=cJ) (us':=[.i (wrap .i64 (n0+o0))]) (y':=wrap .i64 (n0+o0)) 0 _ z z z s e0 I0 z Bb z x1 w1 z z z (fun q0 m=>absurd m.2 (AV q0))) ?_;rintro _ _ ⟨f0,y1⟩;have:=Y _ e0;have⟨z1,_⟩:=Eu v1 f0;have⟨p,q,r,t,u,v⟩:=Ve p q r t u v f0;have x:=x.upd f0 (fun r0 hq=>by have:=c1 r0 hq;have:=Y _ e0;omega);have y:=y.upd f0 (fun r0 hq=>by have:=f1 r0 hq;have:=Y _ e0;omega);refine TL.noPan (l:=[]) (Re 7 ?_);intro o hK;exact⟨N,nr,(wrap .i64 (b0+1)),((D.set (j1).toNat (wrap .i64 (n0+o0)))),hK.sub z,z1,(by omega),p,q,t,u,v,r,y1,x,y,hF⟩
  ·intro hF;refine Rc 3 ?_
   subst h1
   refine Re 6 (Yl z (Hm z Ak s) (Ro 5 ?_));refine WC.loopD (fun P o wl=>∃(Q:Int) (E:List Int),Kn 74 [(5,.p V),(6,W),(10,.i Q)] o∧AU w wl∧i1.heap.size<=wl.heap.size∧BO wl V [J,K,L,M] 124∧AF cJ wl (Iv 0 H) h.b J∧AF cJ wl (Iv 0 H) h.f K∧AF cJ wl (Iv 0 H) h.c L∧AF cJ wl (Iv 0 H) h.d M∧AC cJ wl (z0.heap.size) (Iv 0 0) 2 E W∧Ol h (fun Q E=>(some E)) P Q E=some U) n ?_ ?_
   ·intro o hK;exact⟨(wrap .i64 (((D.length:Int))-1)),D,hK.sub z,H0,nr,q,t,u,v,r,s,hF⟩
   ·rintro P o _ ⟨Q,E,hK,L0,_,F,G,R,S,T,B,hF⟩;refine EK hK ?_;rcases P with _|P;exact EI hF;rw [Ol.eq_2]at hF;refine Rc 7 (Wc z hF ?_ ?_)
    ·intro hF;have⟨A1,B1,hF⟩:=AO hF;have⟨s0,C1,hF⟩:=AO hF;have⟨t0,D1,hF⟩:=AO hF;have⟨_,M0,hF⟩:=AO hF;refine Rc 4 ?_;refine Du 12 Tryz.hm fun A2 N0 g=>?_;have⟨E1,_⟩:=Et L0 N0;have⟨F,G,R,S,T,B⟩:=JQ F G R S T B N0;refine Fw g [0] (Br 1 g z (CK z GN) (Br 2 g z (Ea z Bn F z) (Fw g [3] (HT 4 g z (JB z Ak Bb G B1) ?_))));rintro _ ⟨_,_,_,rfl,_,rfl,F1⟩;refine Br 5 g z (GB 0 z AR F1 z z) (HT 6 g z (Lp z Ak Bb B C1) ?_);rintro _ ⟨_,_,rfl,_,G1,H1⟩;obtain rfl:=G1;refine Br 7 g z (GB 0 z AR H1 z z) (Fw g [8,9] (HT 10 g z (Lp z Ak Bb B D1) ?_));rintro _ ⟨_,_,rfl,_,I1,J1⟩;obtain rfl:=I1;refine Br 11 g z (GB 0 z AR J1 z z) (JN z (Tr 1 (Ye z (Lp z Ak Bb B M0) ?_)));rintro _ ⟨_,_,rfl,O0,P0,K1⟩;have L1:=P0;obtain rfl:=P0;refine Ef z (Be (c:=cJ) (us':=[.i (wrap .i64 (s0+t0))]) (y':=wrap .i64 (s0+t0)) 0 _ z z z B O0 M0 z Bb z L1 K1 z z z (fun q0 m=>absurd m.2 (AV q0))) ?_;rintro _ _ ⟨Q0,M1⟩;have:=Y _ O0;have⟨N1,_⟩:=Eu E1 Q0;have⟨F,G,R,S,T⟩:=NL F G R S T Q0;refine TL.noPan (l:=[]) (Re 8 ?_);intro o hK;exact⟨P,nr,(wrap .i64 (Q-1)),((E.set (A1).toNat (wrap .i64 (s0+t0)))),hK.sub z,N1,(by omega),F,G,R,S,T,M1,hF⟩
    ·intro hF;cases CF hF;exact Rc 12 (Ne z z ⟨_,z,_,z,AC.base B,L0⟩)
def MA(x17:CW)(r34:List Int)(k0:Int->(List Int)->Option (List Int)):Nat->Int->(List Int)->Option (List Int)
 |0,_,_=>none
 |m+1,a,b=>cond (decide (a<(b.length:Int))) ((AL x17.b a).bind fun f=>(AL b f).bind fun c=>(AL x17.f a).bind fun e=>(AL r34 a).bind fun d=>(AL b a).bind fun g=>MA x17 r34 k0 m (wrap .i64 (a+1)) ((b.set (a).toNat (wrap .i64 (c+(wrap .i64 (e*d))))))) (k0 a b)
def Zd(n:Nat)(a0:AJ)(a1:Int):Option (List Int):=(AL a0.c a1).bind fun d=>(oP n a0 a1).bind fun b=>(Qw ((b.length:Int)) 8).bind fun c=>MA d b (fun e a=>some a) n 1 (List.replicate c 0)
theorem xN{j:AJ}{N:Int}{A:List Int}{O P Q R S:Value}(hF:Zd n j N=some A)(hH:H<=w.heap.size)(o0:At C_Cell w H j.d.b O)(p0:At C_Instance w H j.b.b P)(q0:At Bc w H j.b.c Q)(r0:At C_Port w H j.b.d R)(T:At C_Wire w H j.c S):
 Calls prog 137 [.agg #[O,P,Q,R,S],.i N].toArray w (Fu fun s0 U=>∃V,s0=V∧AC cJ U w.heap.size (Iv 0 0) 2 A V∧AU w U):=by
 unfold Zd at hF;refine AE func137 z ntmps137 (Rc 2 (Ef z (AS z z) ?_));rintro _ _ ⟨_,rfl,_,_,W,x⟩;have f1:=W.size;have⟨r,t0,hF⟩:=AO hF;have⟨X,u0,hF⟩:=AO hF;refine Ro 4 ?_;refine Du 9 Tryz.hm fun g1 Y g=>?_;have⟨Z,_⟩:=Et W Y;have x:=x.ext Y;refine Br 0 g z (CK z ER) (Br 1 g z (Ea z Gu x z) (Fw g [2] (HT 3 g z (JB z Hw Dk (T.oj Z) t0) ?_)));rintro _ ⟨_,_,_,rfl,_,v0,w0⟩;obtain⟨B,C,D,E,rfl,b,c,d,e⟩:=Dc v0;refine Br 4 g z (FT (us:=[B,C,D,E]) z Jf w0 Dk) (Br 5 g z (Ci z CR x Bv) (Fw g [6] ?_));refine dP 8 z z Ki fun _ _ _ _ _ _=>?_;refine Sq 7 z (by kernel_rfl) ?_;rintro F a0;have⟨k,_⟩:=Et Z a0;have⟨b,c,d,e⟩:=Gp b c d e a0;refine⟨_,(GO z jF (W_w u0 (by omega) (o0.oj k) (p0.oj k) (q0.oj k) (r0.oj k) (T.oj k):)),?_⟩;rintro b0 x0 ⟨_,rfl,f,G⟩;have y0:AU F x0:=AU.trans (AU.refl F) G;have⟨z0,_⟩:=Et k G;have⟨b,c,d,e⟩:=Gp b c d e G;have c0:=AC.blk f;refine⟨y0,?_⟩;refine Tc (by kernel_rfl) ?_;rintro d0 _ e0 _ s ⟨_,_⟩;have⟨A0,_⟩:=Et z0 e0;have⟨b,c,d,e,f⟩:=Gw b c d e f e0;refine JN z (Ef z (DQ z s Dk (AB (AF.one b) (AB (AF.one c) (AB (AF.one d) (AB (AF.one e) BC)))) z) ?_);rintro _ _ ⟨f0,s⟩;have⟨C0,_⟩:=Eu A0 f0;have⟨b,c,d,e,f⟩:=NL b c d e (Am f c0) f0;refine Tr 1 (TL.noPan (l:=[]) (Re 4 (Yl z (Hm z Ak f) ?_)));have⟨D0,E0,hF⟩:=AO hF;refine Ef z (GY (c:=cJ) (z:=0) z Ak DN z z z E0 z z (fun _=>z)) ?_;rintro g0 F0 ⟨G0,h0,_,_,i0,H0⟩;have⟨I0,_⟩:=Et C0 i0;have⟨s,b,c,d,e,f⟩:=JQ s b c d e f i0;have j0:=BK h0;clear h0;refine Ro 10 (WC.loopD (fun t y wl=>∃(l:Int) (m:List Int),Kn 49 [(5,.p d0),(6,b0),(7,g0),(8,.i l)] y∧AU w wl∧F0.heap.size<=wl.heap.size∧BO wl d0 [B,C,D,E] 124∧AF cJ wl (Iv 0 H) r.b B∧AF cJ wl (Iv 0 H) r.f C∧AF cJ wl (Iv 0 H) r.c D∧AF cJ wl (Iv 0 H) r.d E∧AC cJ wl (F.heap.size) (Iv 0 0) 2 X b0∧AC cJ wl (G0) (Iv 0 0) 2 m g0∧MA r X (fun l m=>(some m)) t l m=some A) n ?_ ?_)
 ·intro y hK;exact⟨1,(List.replicate D0 0),hK.sub z,I0,nr,s,b,c,d,e,f,H0,hF⟩
 ·rintro t y _ ⟨l,m,hK,k0,_,h,o,p,u,v,q,i,hF⟩;refine EK hK ?_;rcases t with _|t;exact EI hF;rw [MA.eq_2]at hF;refine Rc 5 (Yl z (Hm z Ak i) (Ro 3 (Wc z hF ?_ ?_)))
  ·intro hF;have⟨_,J0,hF⟩:=AO hF;have⟨I,K0,hF⟩:=AO hF;have⟨J,L0,hF⟩:=AO hF;have⟨K,M0,hF⟩:=AO hF;have⟨_,l0,hF⟩:=AO hF;refine Rc 4 ?_;refine Du 21 Tryz.hm fun B1 m0 a=>?_;have⟨N0,_⟩:=Et k0 m0;have⟨h,o,p,u,v,q,i⟩:=MV h o p u v q i m0;refine Fw a [0,1,2] (Br 3 a z (CK z GN) (Br 4 a z (Ea z Bn h z) (Fw a [5] (HT 6 a z (JB z Ak Bb o J0) ?_))));rintro _ ⟨_,_,_,rfl,_,rfl,O0⟩;refine Br 7 a z (GB 0 z AR O0 z z) (HT 8 a z (Lp z Ak Bb i K0) ?_);rintro _ ⟨_,_,rfl,_,P0,Q0⟩;obtain rfl:=P0;refine Br 9 a z (GB 0 z AR Q0 z z) (Br 10 a z (CK z Hd) (Br 11 a z (Ea z Bn h z) (Fw a [12] (HT 13 a z (JB z Ak Bb p L0) ?_))));rintro _ ⟨_,_,_,rfl,_,rfl,R0⟩;refine Br 14 a z (GB 0 z AR R0 z z) (Fw a [15,16] (HT 17 a z (Lp z Ak Bb q M0) ?_));rintro _ ⟨_,_,rfl,_,S0,T0⟩;obtain rfl:=S0;refine Br 18 a z (GB 0 z AR T0 z z) (Fw a [19,20] (JN z (Ye z (Lp z Ak Bb i l0) ?_)));rintro _ ⟨_,_,rfl,L,n0,U0⟩;have V0:=n0;obtain rfl:=n0;refine Ef z (Be (c:=cJ) (us':=[.i (wrap .i64 (I+(wrap .i64 (J*K))))]) (y':=wrap .i64 (I+(wrap .i64 (J*K)))) 0 _ z z z i L l0 z Bb z V0 U0 z z z (fun W0 X0=>absurd X0.2 (AV W0))) ?_;rintro _ _ ⟨M,Y0⟩;have:=j0 _ L;have⟨Z0,_⟩:=Eu N0 M;have⟨h,o,p,u,v⟩:=NL h o p u v M;have q:=q.upd M (fun a1 hq=>by have:=c0 a1 hq;have:=j0 _ L;omega);refine TL.noPan (l:=[]) (Re 8 ?_);intro y hK;exact⟨t,nr,(wrap .i64 (l+1)),((m.set (l).toNat (wrap .i64 (I+(wrap .i64 (J*K)))))),hK.sub z,Z0,(by omega),h,o,p,u,v,q,Y0,hF⟩
  ·intro hF;cases CF hF;exact Rc 12 (Ne z z ⟨_,z,_,z,AC.base i,k0⟩)
def MF(r17:List Int)(x27:CW)(k0:(List Int)->Int->Option (List Int)):Nat->(List Int)->Int->Option (List Int)
 |0,_,_=>none
 |m+1,b,a=>cond (decide (a<(x27.d.length:Int))) ((AL x27.d a).bind fun c=>(AL r17 c).bind fun e=>(De b [e] 8).bind fun d=>MF r17 x27 k0 m d (wrap .i64 (a+1))) (k0 b a)
def Zc(n:Nat)(a0:AJ)(a1:Int):Option (List Int):=(Zd n a0 a1).bind fun b=>(AL a0.c a1).bind fun c=>MF b c (fun a d=>some a) n (([]:List Int)) 0
theorem AcF{d:AJ}{u:Int}{p:List Int}{v x y A B:Value}(a:Zc n d u=some p)(hH:H<=w.heap.size)(U:At C_Cell w H d.d.b v)(V:At C_Instance w H d.b.b x)(W:At Bc w H d.b.c y)(X:At C_Port w H d.b.d A)(C:At C_Wire w H d.c B):
 Calls prog 93 [.agg #[v,x,y,A,B],.i u].toArray w (Fu fun Y D=>∃E,Y=E∧AC cJ D w.heap.size (Iv 0 0) 2 p E∧AU w D):=by
 unfold Zc at a;refine AE func93 z ntmps93 (Rc 2 (Ef z (AS z z) ?_));rintro _ Z ⟨_,rfl,_,_,b,l⟩;have q0:=b.size;refine Ro 5 (Yl z (Ci z CR l Bv) (Ro 1 ?_));refine Cg a mS (fun _ a0=>(xN a0 (by omega) (U.oj b) (V.oj b) (W.oj b) (X.oj b) (C.oj b):)) ?_;rintro F a q c ⟨_,rfl,G,I⟩;have⟨J,_⟩:=Et b I;have l:=l.ext I;have K:=AC.blk G;refine Ro 11 (Fl ER Gu l (Ro 1 (Ix a (C.oj J) Hw Dk ?_)));rintro r _ a _ ⟨_,_,_,rfl,_,b0,c0⟩;obtain⟨_,_,_,L,rfl,_,_,_,M⟩:=Dc b0;refine Fc FM Bn c0 (Yl z (HK z Ak M) (Ro 4 ?_));have d0:AC cJ c (c.heap.size) (Iv 0 0) 2 [] (.slice none 0 0):=AC.nil _ _ _ _ _;have N:Bd (Value.slice none 0 0) c.heap.size c.heap.size:=Hp;refine WC.loopD (fun g m wl=>∃(h:List Int) (i:Value) (j:Int),Kn 32 [(5,q),(6,i),(17,L),(18,.i ((r.d.length:Int))),(19,.i j)] m∧AU w wl∧c.heap.size<=wl.heap.size∧AF cJ wl (Iv 0 H) r.d L∧AC cJ wl (c.heap.size) (Iv 0 0) 2 h i∧Bd i c.heap.size wl.heap.size∧AC cJ wl (Z.heap.size) (Iv 0 0) 2 F q∧No i q∧MF F r (fun h j=>(some h)) g h j=some p) n ?_ ?_
 ·intro m hK;exact⟨(([]:List Int)),((.slice none 0 0)),0,hK.sub z,J,nr,M,d0,(fun s hg=>by have:=N s hg;omega),G,(No.of N K),a⟩
 ·rintro g m _ ⟨h,i,j,hK,O,_,e,o,t,f,e0,a⟩;refine EK hK ?_;rcases g with _|g;exact EI a;rw [MF.eq_2]at a;refine Rc 6 (Wc z a ?_ ?_)
  ·intro a;refine Rc 6 (Il a e Ak Bb AR ?_);rintro _ a _;refine Ro 7 (PG a f Ak Bb AR ?_);rintro P a _;refine Ef z (Aq cJ [P] [[.i P]] z Ak DN z z ⟨z,trivial⟩) ?_;rintro _ _ ⟨_,Q,_,_,R,f0⟩;have⟨g0,_⟩:=Et O R;have⟨e,o,f⟩:=FE e o f R;have M0:=BK Q;clear Q;have⟨h0,i0,a⟩:=AO a;refine Ef z (BA (c:=cJ) z Ak DN z z z z z o (by omega) (AC.slf f0 nr nr) i0) ?_;rintro j0 _ ⟨S,k⟩;have⟨k0,_⟩:=Ge g0 k t;have e:=Ah.slr k e (Ns.of t);have T:=e0;have l0:=Gn k T K;have f:=Ah.ownF k f T;have m0:=HZ k S t;refine Ro 9 ?_;intro m hK;exact⟨g,nr,h0,j0,(wrap .i64 (j+1)),hK.sub z,k0,(by omega),e,S,(fun s hg=>by have:=m0 s hg;omega),f,l0,a⟩
  ·intro a;cases CF a;exact Rc 12 (Ne z z ⟨_,z,_,z,AC.base o,O⟩)
def Oj(l106:List Int)(i116:Int)(i422:Int)(x445:Int)(k8:Int->(List Ad)->Option Cu):Nat->Int->(List Ad)->Option Cu
 |0,_,_=>none
 |m+1,a,b=>cond (decide (a<2)) ((AL l106 i116).bind fun c=>(De b ([(Ad.mk (wrap .i64 ((wrap .i64 (2*c))+a)) (wrap .i64 ((wrap .i64 (2*x445))+a)) 2 i422)]) 32).bind fun d=>Oj l106 i116 i422 x445 k8 m (wrap .i64 (a+1)) d) (k8 a b)
def Mp(n:Nat)(l106:List Int)(i116:Int)(x409:List Int)(k6:Int->(List Ad)->Option Cu):Nat->Int->(List Ad)->Option Cu
 |0,_,_=>none
 |m+1,a,b=>cond (decide (a<(x409.length:Int))) ((AL x409 a).bind fun d=>Oj l106 i116 a d (fun e c=>Mp n l106 i116 x409 k6 m (wrap .i64 (a+1)) c) n 0 b) (k6 a b)
def Jg(n:Nat)(a0:AJ)(l106:List Int)(l108:List (List Int))(k4:Int->(List Ad)->(List Int)->(List Unit)->Option Cu):Nat->Int->(List Ad)->(List Int)->(List Unit)->Option Cu
 |0,_,_,_,_=>none
 |m+1,a,b,c,d=>cond (decide (a<(a0.c.length:Int))) ((oP n a0 a).bind fun i=>(AL i 0).bind fun e=>(De c [e] 8).bind fun j=>(Zc n a0 a).bind fun k=>(De d (([k].map fun _=>())) 24).bind fun h=>(AL l108 a).bind fun f=>Mp n l106 a f (fun l g=>Jg n a0 l106 l108 k4 m (wrap .i64 (a+1)) g j h) n 0 b) (k4 a b c d)
def Mg(r17:List Bi)(k2:Int->(List Int)->(List (List Int))->Option Cu):Nat->Int->(List Int)->(List (List Int))->Option Cu
 |0,_,_,_=>none
 |m+1,a,d,c=>cond (decide (a<(r17.length:Int))) ((AL r17 a).bind fun b=>cond b.d ((AL d b.b).bind fun h=>Mg r17 k2 m (wrap .i64 (a+1)) ((d.set (b.b).toNat a)) c) ((AL c b.b).bind fun f=>(De f [a] 8).bind fun e=>(AL c b.b).bind fun g=>Mg r17 k2 m (wrap .i64 (a+1)) d ((c.set (b.b).toNat e)))) (k2 a d c)
def Ox(n:Nat)(a0:AJ)(k0:Int->Int->(List Ad)->Option Cu):Nat->Int->Int->(List Ad)->Option Cu
 |0,_,_,_=>none
 |m+1,b,a,c=>cond (decide (a<(a0.b.b.length:Int))) ((AL a0.b.b a).bind fun e=>(pD n a0 e b).bind fun g=>(De c g 32).bind fun d=>(RM n e.c).bind fun f=>Ox n a0 k0 m (wrap .i64 (b+f)) (wrap .i64 (a+1)) d) (k0 b a c)
def tD(n:Nat)(a0:AJ):Option Cu:=(fK n a0.b).bind fun a=>Ox n a0 (fun o l h=>(Qw ((a0.c.length:Int)) 8).bind fun i=>(Qw ((a0.c.length:Int)) 24).bind fun g=>Mg a (fun j c e=>Jg n a0 c e (fun k b d f=>some ((Cu.mk a0 a b d f (([]:List Int))))) n 0 h (([]:List Int)) (([]:List Unit))) n 0 (List.replicate i 0) (List.replicate g (([]:List Int)))) n 0 0 (([]:List Ad))
theorem W_5{e0:AJ}{f0:Cu}{R t C D S:Value}(hF:tD n e0=some f0)(hH:H<=w.heap.size)(L1:At C_Cell w H e0.d.b R)(L0:At C_Instance w H e0.b.b t)(q1:At Bc w H e0.b.c C)(r1:At C_Port w H e0.b.d D)(M0:At C_Wire w H e0.c S):
 Calls prog 59 [.agg #[R,t,C,D,S]].toArray w (Fu fun t4 D0=>∃M1 N0 O0 P0 Q0 R0,t4= .p M1∧BO D0 M1 [R,t,C,D,S,N0,O0,P0,Q0,R0] 102∧w.heap.size<=M1∧AC C_place D0 w.heap.size (Iv 0 0) 172 f0.c N0∧AC C_Link D0 w.heap.size (Iv 0 0) 162 f0.d O0∧AC cJ D0 w.heap.size (Iv 0 0) 2 f0.f P0∧AC Ny D0 w.heap.size (Iv 0 0) 70 f0.g Q0∧AC cJ D0 w.heap.size (Iv 0 0) 2 f0.h R0∧No O0 N0∧No P0 N0∧No P0 O0∧No Q0 N0∧No Q0 O0∧No Q0 P0∧No R0 N0∧No R0 O0∧No R0 P0∧No R0 Q0∧AU w D0):=by
 unfold tD at hF;refine AE func59 z ntmps59 (Rc 2 (Ef z (AS z z) ?_));rintro _ _ ⟨p,rfl,_,_,A2,j0⟩;have y7:=A2.size;have⟨E0,u4,hF⟩:=AO hF;refine Ro 4 ?_;refine Du 4 Tryz.hm fun F0 B2 N1=>?_;have⟨s1,_⟩:=Et A2 B2;have j0:=j0.ext B2;refine Br 0 N1 z (Ci z CR j0 Bv) (Br 1 N1 z (CK z DR) (Br 2 N1 z (FT (us:=[t,C,D]) z FB (Ab.sub (BO.cells j0) 1 3:Ab _ _ _ [t,C,D]) EZ) (LK 3 z (GO z Tz (sM u4 (by omega) (L0.oj s1) (q1.oj s1) (r1.oj s1):)) ?_)));rintro s v4 ⟨_,rfl,c1,O1⟩;have w4:AU F0 v4:=AU.trans (AU.refl F0) O1;have⟨x4,_⟩:=Et s1 O1;have j0:=j0.ext O1;have J:=AC.blk c1;refine⟨w4,?_⟩;refine JN z (Yl z (Bt (uss:=[(0,[R,t,C,D,S]),(1,[s])]) (out:=[R,t,C,D,S,s,.slice none 0 0,.slice none 0 0,.slice none 0 0,.slice none 0 0]) z z nL oE (Cl z (Cl (AF.cl (AC.slf c1 nr nr)) z)) z) (Ef z (AS z z) ?_));rintro _ W ⟨q,rfl,_,_,C2,y4⟩;have⟨D2,_⟩:=Et x4 C2;have⟨j0,c1⟩:=Di j0 c1 C2;refine Tr 1 (TL.noPan (l:=[]) (Re 9 (Yl z (CK z DR) (Yl z (CK z Dz) (Yl z (Ea z GR j0 z) (Yl z (HK z Gg (L0.oj D2)) (Ro 4 ?_)))))));have z4:AC C_Link W (W.heap.size) (Iv 0 0) 162 [] (.slice none 0 0):=AC.nil _ _ _ _ _;have t1:Bd (Value.slice none 0 0) W.heap.size W.heap.size:=Hp;have⟨A4,B4,hF⟩:=jK hF;refine WC.loopD (fun d1 f wl=>∃(u1 v1:Int) (e1:List Ad) (b0:Value),Kn 156 [(1,.p p),(3,.p q),(4,.i u1),(23,t),(24,.i ((e0.b.b.length:Int))),(25,.i v1)] f∧AU w wl∧W.heap.size<=wl.heap.size∧BO wl p [R,t,C,D,S] 34∧BO wl q [R,t,C,D,S,s,b0,.slice none 0 0,.slice none 0 0,.slice none 0 0] 102∧AC C_Link wl (W.heap.size) (Iv 0 0) 162 e1 b0∧Bd b0 W.heap.size wl.heap.size∧AC C_place wl (F0.heap.size) (Iv 0 0) 172 E0 s∧Nb b0 p∧Nb b0 q∧No b0 s∧Ox n e0 A4 d1 u1 v1 e1=some f0) n ?_ ?_
 ·intro f hK;exact⟨0,0,(([]:List Ad)),((.slice none 0 0)),hK.sub z,D2,nr,j0,y4,z4,(fun b hg=>by have:=t1 b hg;omega),c1,(Nb.of t1),(Nb.of t1),(No.of t1 J),hF⟩
 ·rintro d1 f _ ⟨u1,v1,e1,b0,hK,w1,_,g,h,X,K,l,x1,y1,E2,hF⟩;refine EK hK ?_;rcases d1 with _|d1;exact EI hF;rw [Ox.eq_2]at hF;refine Rc 6 (Wc z hF ?_ ?_)
  ·intro hF;refine Rc 6 (Ix hF (L0.oj w1) Gg Dj ?_);rintro F2 _ hF _ ⟨_,_,_,rfl,_,C4,D4⟩;obtain⟨E4,rfl,T⟩:=Bz C4;refine Yl z (FT (us:=[.string F2.f,.i F2.b,E4]) z La D4 Dj) (Ef z (AZ z Mj) ?_);rintro _ _ ⟨_,rfl,_,_,G2,Y⟩;have⟨F4,_⟩:=Et w1 G2;have⟨g,h,T,X,l⟩:=Gw g h T X l G2;refine Ef z (DQ z Y Dj (AB z (AB z (AB (AF.one T) BC))) z) ?_;rintro _ _ ⟨H2,Y⟩;have⟨H4,_⟩:=Eu F4 H2;have⟨g,h,T,X,l⟩:=NL g h T (Am X K) (Am l J) H2;have⟨_,I4,hF⟩:=AO hF;have⟨J4,K4,hF⟩:=AO hF;refine Ro 3 ?_;refine WC.heldG (p:=(pO b0)) 10 Tryz.hm fun P1 I2=>?_;have⟨S0,_⟩:=Et H4 I2;have⟨g,h,Y,T,X,l⟩:=JQ g h Y T X l I2;refine KC [0,1] ?_;refine GD 2 z (fun _ a=>Bj z z) ?_;refine GD 3 z (fun _ a=>CK z PN) ?_;refine GD 4 z (fun _ a=>have h:=BO.but h a (Kh y1);(Ea z iS h z)) ?_;refine GD 5 z (fun _ a=>have g:=BO.but g a (Kh x1);(Ci z CR g Bv)) ?_;refine GD 6 z (fun _ a=>have Y:=BO.but Y a (Kh (Nb.of K));(Ci z La Y Dj)) ?_;refine KC [7] ?_;refine Jy 8 z (GO z pV (W_m I4 (by omega) (L1.oj S0) (L0.oj S0) (q1.oj S0) (r1.oj S0) (M0.oj S0) T:)) ?_;rintro _ L4 ⟨_,rfl,J2,Q1⟩;have⟨M4,_⟩:=Et S0 Q1;have⟨g,h,Y,T,X,l⟩:=JQ g h Y T X l Q1;have W7:=AC.blk J2;have K2:BH (pO b0) P1 L4:=(BH.ext (BH.refl _ P1) Q1);refine⟨K2,?_⟩;refine Jy 9 z (BA (c:=C_Link) z Iy My z z z z z X (by omega) (AC.slf J2 nr nr) K4) ?_;rintro N4 O4 ⟨z0,g0⟩;have⟨P4,_⟩:=Ge M4 g0 K;have Q4:Nb _ p:=Gb g0 x1;have g:=Ah.box g0 g x1;have L2:Nb _ q:=Gb g0 y1;have h:=Ah.box g0 h y1;have Y:=Ah.box g0 Y (Nb.of K);have T:=Ah.slr g0 T (Ns.of K);have M2:=E2;have R4:=Gn g0 M2 J;have l:=Ah.ownF g0 l M2;have S4:=HZ g0 z0 K;have T4:BH (pO b0) P1 O4:=(BH.grow K2 g0 (fun b hg=>(Or.inl hg)));refine⟨T4,?_⟩;refine Qo z (Yl z (Bj z z) (Yl z (CK z PN) (Ef z (Ee z z z h iI z0.cells z0.one z) ?_)));rintro _ _ ⟨R1,h⟩;have⟨V4,_⟩:=Eu P4 R1;have⟨g,Y,T,l⟩:=Jq g Y T (Am l J) R1;have z0:=z0.upd R1 L2;refine TL.noPan (l:=[]) (Re 3 (Fl FQ Bn Y ?_));refine Cs hF V4 Sx (fun _ a=>(XZ a (by omega) T:)) ?_;rintro W4 hF _ X4 ⟨Y4,_⟩;have⟨g,h,l,z0⟩:=Gp g h l z0 X4;refine Ro 10 ?_;intro f hK;exact⟨d1,nr,(wrap .i64 (u1+W4)),(wrap .i64 (v1+1)),J4,N4,hK.sub z,Y4,(by omega),g,h,z0,(fun b hg=>by have:=S4 b hg;omega),l,Q4,L2,R4,hF⟩
  ·intro hF;refine Rc 3 ?_
   subst B4
   refine Re 4 (Gz ER Gu g Hw (M0.oj w1) ?_);have⟨Z4,a5,hF⟩:=AO hF;refine Ef z (GY (c:=cJ) (z:=0) z Ak DN z z z a5 z z (fun _=>z)) ?_;rintro Z _ ⟨z1,N2,_,_,O2,S1⟩;have⟨P2,_⟩:=Et w1 O2;have⟨g,h,X,l⟩:=Gp g h X l O2;have E:=BK N2;clear N2;refine Ro 5 (Gz ER Gu g Hw (M0.oj P2) ?_);have⟨Q2,b5,hF⟩:=AO hF;refine Ef z (XM (c:=cJ) (ei:=2) z Ip Pn z z z b5) ?_;rintro L c5 ⟨m,R2,_,_,S2,d5⟩;have⟨e5,_⟩:=Et P2 S2;have⟨g,h,X,l,S1⟩:=Gw g h X l S1 S2;have M:=BK R2;clear R2;refine Ro 7 (Yl z (Bj z z) (Fl UG iV h (Yl z (Hm z Pi l) (Ro 4 ?_))));have⟨f5,g5,hF⟩:=jK hF;refine WC.loopD (fun T0 f wl=>∃(k0:Int) (h0:List Int) (v0:List (List Int)) (G0:List Value),Kn 156 [(1,.p p),(3,.p q),(7,Z),(8,L),(58,s),(59,.i ((E0.length:Int))),(60,.i k0)] f∧AU w wl∧c5.heap.size<=wl.heap.size∧BO wl p [R,t,C,D,S] 34∧BO wl q [R,t,C,D,S,s,b0,.slice none 0 0,.slice none 0 0,.slice none 0 0] 102∧AC cJ wl (z1) (Iv 0 0) 2 h0 Z∧own2 cJ wl (m) (wl.heap.size) 70 2 v0 L G0∧AC C_place wl (F0.heap.size) (Iv 0 0) 172 E0 s∧AC C_Link wl (W.heap.size) (Iv 0 0) 162 e1 b0∧Mg E0 f5 T0 k0 h0 v0=some f0) n ?_ ?_
   ·intro f hK;exact⟨0,(List.replicate Z4 0),(List.replicate Q2 (([]:List Int))),((List.replicate Q2 (.slice none 0 0))),hK.sub z,e5,nr,g,h,S1,(own2.wide d5),l,X,hF⟩
   ·rintro T0 f c ⟨k0,h0,v0,G0,hK,T1,_,u,F,N,O,v,G,hF⟩;refine EK hK ?_;rcases T0 with _|T0;exact EI hF;rw [Mg.eq_2]at hF;refine Rc 6 (Wc z hF ?_ ?_)
    ·intro hF;refine Rc 7 (Io hF v Pi IU ?_);rintro H0 _ hF _ ⟨_,_,rfl,_,h5,i5⟩;obtain rfl:=Hx h5;refine Yl z (FT (us:=[.i H0.c,.i H0.f,.i H0.b,.bool H0.d]) z Rt i5 IU) (Ef z (AZ z SF) ?_);rintro _ _ ⟨_,rfl,_,_,T2,a0⟩;have⟨j5,_⟩:=Et T1 T2;have⟨u,F,N,O,v,G⟩:=JQ u F N O v G T2;refine Ro 1 (Ef z (DQ z a0 IU z z) ?_);rintro _ _ ⟨A1,a0⟩;have⟨U2,_⟩:=Eu j5 A1;have⟨u,F,N⟩:=Iw u F (Am N E) A1;have O:=O.upd A1 (Nb.of M) (by omega);have⟨v,G⟩:=PH (Am v J) (Am G K) A1;refine Ro 4 (Fl Rk Gi a0 (Ro 2 (Wc z hF ?_ ?_)))
     ·intro hF;refine Rc 2 (Fl Ms AR a0 (Ro 1 (Io hF N Ak Bb ?_)));rintro _ l5 hF _ ⟨_,_,rfl,f1,V2,m5⟩;have n5:=V2;obtain rfl:=V2;refine Ef z (Be (c:=cJ) (us':=[.i k0]) (y':=k0) 0 _ z z z N f1 l5 z Bb z n5 m5 z z z (fun U0 a=>absurd a.2 (AV U0))) ?_;rintro _ _ ⟨g1,o5⟩;have:=E _ f1;have⟨p5,_⟩:=Eu U2 g1;have⟨u,F,a0⟩:=Iw u F a0 g1;have O:=O.upd g1 (fun U hq=>by have:=M U hq;have:=E _ f1;omega) (by omega);have v:=v.upd g1 (fun U hq=>by have:=J U hq;have:=E _ f1;omega);have G:=G.upd g1 (fun U hq=>by have:=K U hq;have:=E _ f1;omega);refine Ro 8 ?_;intro f hK;exact⟨T0,nr,(wrap .i64 (k0+1)),((h0.set (H0.b).toNat k0)),v0,G0,hK.sub z,p5,(by omega),u,F,o5,(own2.wide O),v,G,hF⟩
     ·intro hF;have⟨_,U1,hF⟩:=AO hF;have⟨q5,r5,hF⟩:=AO hF;have⟨_,W2,hF⟩:=AO hF;refine WC.heldG (p:=(SX m c.heap.size L)) 11 Tryz.hm fun V1 X2=>?_;have⟨s5,_⟩:=Et U2 X2;have⟨u,F,a0,N,O,v,G⟩:=MV u F a0 N O v G X2;refine KC [0] ?_;refine GD 1 z (fun _ a=>CK z Ms) ?_;refine GD 2 z (fun wx hbx=>(have a0:=BO.but a0 hbx (VK (fun U0 a=>by have:=a.1;have:=a.2.1;omega));(Ea z AR a0 z))) ?_;refine KC [3] ?_;refine GD 4 z (fun _ a=>CK z Ms) ?_;refine GD 5 z (fun wx hbx=>(have a0:=BO.but a0 hbx (VK (fun U0 a=>by have:=a.1;have:=a.2.1;omega));(Ea z AR a0 z))) ?_;refine VB 6 z (DO (c:=(Hh cJ)) z Ip MR z z (own2.r O) U1) ?_;rintro _ ⟨_,_,rfl,W1,t5,B1⟩;obtain⟨_,rfl,_⟩:=t5;have Y2:=own2.at1 O U1 W1 B1;refine GD 7 z (fun wx hbx=>(have B1:=Ab.but B1 hbx (VK (fun U0 a X1=>a.2.2 (X1▸W1))) (by have:=M _ W1;omega);(GB 0 z Bn B1 z z))) ?_;refine KC [8] ?_;refine Jy 9 z (Aq cJ [k0] [[.i k0]] z Ak DN z z ⟨z,trivial⟩) ?_;rintro _ u5 ⟨_,Z2,_,_,Y1,v5⟩;have⟨w5,_⟩:=Et s5 Y1;have⟨u,F,N,O,v,G⟩:=JQ u F N O v G Y1;have M8:=BK Z2;clear Z2;have a3:BH (SX m c.heap.size L) V1 u5:=(BH.ext (BH.refl _ V1) Y1);refine⟨a3,?_⟩;have⟨x5,l0,b3⟩:=own2.sub O U1 Y2;refine Jy 10 z (BA (c:=cJ) z Ak DN z z z z z x5 (by omega) (AC.slf v5 nr nr) r5) ?_;rintro y5 z5 ⟨Z1,w0⟩;have⟨A5,_⟩:=Ge w5 w0 l0;have u:=Ah.box w0 u (Nb.of l0);have F:=Ah.box w0 F (Nb.of l0);have B5:=(No.of l0 E);have N:=Ah.ownF w0 N B5;have c3:=own2.grew O Y2 l0 b3 w0 (by omega) (by omega) (fun b hg=>(AC.blk Z1 b hg).2);have C5:=(No.of l0 J);have v:=Ah.ownF w0 v C5;have D5:=(No.of l0 K);have G:=Ah.ownF w0 G D5;have O8:=HZ w0 Z1 l0;have E5:BH (SX m c.heap.size L) V1 z5:=(BH.grow a3 w0 (fun b hg=>(Or.inl ⟨(l0 b hg).1,(l0 b hg).2,fun X1=>b3 b b X1 hg z⟩)));refine⟨E5,?_⟩;refine Qo z (Ye z (yi2 z Ip MR c3 W2) ?_);rintro _ ⟨_,rfl,h1⟩;refine Ef z (xQ z z h1 MR c3 Z1 (YX W2)) ?_;rintro _ _ ⟨i1,F5⟩;have:=M _ h1;have⟨G5,_⟩:=Eu A5 i1;have⟨u,F⟩:=PH u F i1;have N:=N.upd i1 (fun U hq=>by have:=E U hq;have:=M _ h1;omega);have v:=v.upd i1 (fun U hq=>by have:=J U hq;have:=M _ h1;omega);have G:=G.upd i1 (fun U hq=>by have:=K U hq;have:=M _ h1;omega);refine TL.noPan (l:=[]) (Re 7 ?_);intro f hK;exact⟨T0,nr,(wrap .i64 (k0+1)),h0,((v0.set (H0.b).toNat q5)),((G0.set (H0.b).toNat y5)),hK.sub z,G5,(by omega),u,F,N,(own2.wide F5),v,G,hF⟩
    ·intro hF;refine Rc 3 ?_
     subst g5
     refine Re 5 (Gz ER Gu u Hw (M0.oj T1) (Ro 4 ?_));have H5:AC cJ c (c.heap.size) (Iv 0 0) 2 [] (.slice none 0 0):=AC.nil _ _ _ _ _;have x0:Bd (Value.slice none 0 0) c.heap.size c.heap.size:=Hp;have I5:AC Ny c (c.heap.size) (Iv 0 0) 70 [] (.slice none 0 0):=AC.nil _ _ _ _ _;have y0:Bd (Value.slice none 0 0) c.heap.size c.heap.size:=Hp;have⟨J5,K5,hF⟩:=dB hF;refine WC.loopD (fun j1 f wl=>∃(m0:Int) (C1:List Ad) (c0:Value) (a2:List Int) (I:Value) (b2:List Unit) (P:Value),Kn 156 [(1,.p p),(3,.p q),(7,Z),(8,L),(87,.i ((e0.c.length:Int))),(88,.i m0)] f∧AU w wl∧c.heap.size<=wl.heap.size∧BO wl p [R,t,C,D,S] 34∧BO wl q [R,t,C,D,S,s,c0,I,P,.slice none 0 0] 102∧AC C_Link wl (W.heap.size) (Iv 0 0) 162 C1 c0∧Bd c0 W.heap.size wl.heap.size∧AC cJ wl (c.heap.size) (Iv 0 0) 2 a2 I∧Bd I c.heap.size wl.heap.size∧AC Ny wl (c.heap.size) (Iv 0 0) 70 b2 P∧Bd P c.heap.size wl.heap.size∧AC cJ wl (z1) (Iv 0 0) 2 h0 Z∧own2 cJ wl (m) (c.heap.size) 70 2 v0 L G0∧AC C_place wl (F0.heap.size) (Iv 0 0) 172 E0 s∧Nb c0 p∧Nb c0 q∧No c0 I∧No c0 P∧No c0 Z∧Ns c0 m c.heap.size∧No c0 L∧No c0 s∧Nb I p∧Nb I q∧No I P∧No I Z∧Ns I m c.heap.size∧No I L∧No I s∧Nb P p∧Nb P q∧No P Z∧Ns P m c.heap.size∧No P L∧No P s∧Jg n e0 h0 v0 J5 j1 m0 C1 a2 b2=some f0) n ?_ ?_
     ·intro f hK;exact⟨0,e1,b0,(([]:List Int)),((.slice none 0 0)),(([]:List Unit)),((.slice none 0 0)),hK.sub z,T1,nr,u,F,G,(fun b hg=>by have:=K b hg;omega),H5,(fun b hg=>by have:=x0 b hg;omega),I5,(fun b hg=>by have:=y0 b hg;omega),N,(own2.wide O),v,x1,y1,(No.of K x0),(No.of K y0),(No.of K E),(Ns.of K),(No.of K M),E2,(Nb.of x0),(Nb.of x0),(No.of x0 y0),(No.of x0 E),(Ns.of x0),(No.of x0 M),(No.of x0 J),(Nb.of y0),(Nb.of y0),(No.of y0 E),(Ns.of y0),(No.of y0 M),(No.of y0 J),hF⟩
     ·rintro j1 f _ ⟨m0,C1,c0,a2,I,b2,P,hK,d3,_,e,d,i,c2,A0,d2,x,e2,o,j,k,L5,f2,e3,f3,M5,g3,N5,h3,g2,h2,i3,O5,j3,P5,k3,i2,D1,Q5,l3,R5,m3,hF⟩;refine EK hK ?_;rcases j1 with _|j1;exact EI hF;rw [Jg.eq_2]at hF;refine Rc 6 (Wc z hF ?_ ?_)
      ·intro hF;have⟨_,S5,hF⟩:=AO hF;have⟨n3,T5,hF⟩:=AO hF;have⟨j2,U5,hF⟩:=AO hF;refine Rc 11 ?_;refine WC.heldG (p:=(pO I)) 12 Tryz.hm fun o3 p3=>?_;have⟨V0,_⟩:=Et d3 p3;have⟨e,d,i,A0,x,o,j,k⟩:=GT e d i A0 x o j k p3;refine KC [0,1] ?_;refine GD 2 z (fun _ a=>Bj z z) ?_;refine GD 3 z (fun _ a=>CK z UH) ?_;refine GD 4 z (fun _ a=>have d:=BO.but d a (Kh h2);(Ea z Bn d z)) ?_;refine GD 5 z (fun _ a=>have e:=BO.but e a (Kh g2);(Ci z CR e Bv)) ?_;refine KC [6] ?_;refine Jy 7 z (GO z jF (W_w S5 (by omega) (L1.oj V0) (L0.oj V0) (q1.oj V0) (r1.oj V0) (M0.oj V0):)) ?_;rintro V5 E1 ⟨_,rfl,q3,k2⟩;have⟨W5,_⟩:=Et V0 k2;have⟨e,d,i,A0,x,o,j,k⟩:=GT e d i A0 x o j k k2;have r3:=AC.blk q3;have X5:BH (pO I) o3 E1:=(BH.ext (BH.refl _ o3) k2);refine⟨X5,?_⟩;refine Js.shrink (VB 8 z (DO (c:=cJ) z Ak Bb z z q3 T5) ?_);rintro _ ⟨_,_,rfl,s3,Y5,l2⟩;obtain rfl:=Y5;refine GD 9 z (fun _ a=>have Z5:No I V5:=(No.of d2 r3);have l2:=Ab.but l2 a (Kh (fun b hg=>Z5 b _ hg s3)) (by have:=r3 _ s3;omega);(GB 0 z AR l2 z z)) ?_;refine Jy 10 z (Aq cJ [n3] [[.i n3]] z Ak DN z z ⟨z,trivial⟩) ?_;rintro _ a6 ⟨_,t3,_,_,m2,b6⟩;have⟨c6,_⟩:=Et W5 m2;have⟨e,d,i,A0,x,o,j,k⟩:=GT e d i A0 x o j k m2;have e9:=BK t3;clear t3;have u3:BH (pO I) E1 a6:=(BH.ext (BH.refl _ E1) m2);refine⟨u3,?_⟩;refine Jy 11 z (BA (c:=cJ) z Ak DN z z z z z A0 (by omega) (AC.slf b6 nr nr) U5) ?_;rintro I0 d6 ⟨Q,y⟩;have⟨e6,_⟩:=Ge c6 y d2;have f6:Nb _ p:=Gb y g2;have e:=Ah.box y e g2;have F1:Nb _ q:=Gb y h2;have d:=Ah.box y d h2;have v3:=(No.symm e3);have g6:=Gn y v3 c2;have i:=Ah.ownF y i v3;have w3:=i3;have h6:=Gn y w3 e2;have x:=Ah.ownF y x w3;have x3:=O5;have i6:=Gn y x3 E;have o:=Ah.ownF y o x3;have y3:=P5;have j6:=Gn y y3 M;have k6:Ns _ m c.heap.size:=Gs y j3;have j:=Ah.own2 y j y3 (by omega) j3;have z3:=k3;have l6:=Gn y z3 J;have k:=Ah.ownF y k z3;have n2:=HZ y Q d2;have m6:BH (pO I) E1 d6:=(BH.grow u3 y (fun b hg=>(Or.inl hg)));refine⟨m6,?_⟩;refine Qo z (Yl z (Bj z z) (Yl z (CK z UH) (Ef z (Ee z z z d MR Q.cells Q.one z) ?_)));rintro _ _ ⟨B0,d⟩;have⟨o6,_⟩:=Eu e6 B0;have e:=e.upd B0 (by omega);have i:=i.upd B0 f2;have x:=x.upd B0 D1;have o:=Zo (Am o E) B0;have j:=j.upd B0 (Nb.of M) (by omega);have k:=Zo (Am k J) B0;have Q:=Q.upd B0 F1;refine TL.noPan (l:=[]) (Re 2 ?_);have⟨p6,q6,hF⟩:=AO hF;have⟨o2,r6,hF⟩:=AO hF;refine WC.heldG (p:=(pO P)) 10 Tryz.hm fun k1 A3=>?_;have⟨W0,_⟩:=Et o6 A3;have⟨e,d,i,x,o,j,k,Q⟩:=GT e d i x o j k Q A3;refine KC [0,1] ?_;refine GD 2 z (fun _ a=>Bj z z) ?_;refine GD 3 z (fun _ a=>CK z UE) ?_;refine GD 4 z (fun _ a=>have d:=BO.but d a (Kh D1);(Ea z kA d z)) ?_;refine GD 5 z (fun _ a=>have e:=BO.but e a (Kh i2);(Ci z CR e Bv)) ?_;refine KC [6] ?_;refine Jy 7 z (GO z uI (AcF q6 (by omega) (L1.oj W0) (L0.oj W0) (q1.oj W0) (r1.oj W0) (M0.oj W0):)) ?_;rintro X0 s6 ⟨_,rfl,Y0,p2⟩;have⟨t6,_⟩:=Et W0 p2;have⟨e,d,i,x,o,j,k,Q⟩:=GT e d i x o j k Q p2;have u6:=AC.blk Y0;have B3:BH (pO P) k1 s6:=(BH.ext (BH.refl _ k1) p2);refine⟨B3,?_⟩;refine Jy 8 z (Hy (c:=Ph) (xs:=([X0]:List Value)) (S:=(Iv 0 0)) (uss:=[(0,[X0])]) (out:=[X0]) z Ip Pn z (Cl (AF.cl (AC.slf Y0 nr nr)) z) (Nq [[X0]] z z z) z z z z (Qp (uss:=[[X0]]) (show QD _ _ _ _ _ from⟨⟨z,AC.one Y0⟩,trivial⟩) z) (fun U0 a=>by have:=a.2;omega) z) ?_;rintro v6 C3 ⟨w6,D3,_,_,G1,x6⟩;have⟨y6,_⟩:=Et t6 G1;have⟨e,d,i,x,o⟩:=Gw e d i x o G1;have⟨j,k,Q,Y0⟩:=Gp j k Q Y0 G1;have z6:=BK D3;clear D3;have A6:own2 cJ C3 (k1.heap.size) (w6) 70 2 [p6] v6 [X0]:=(own2.lit1 x6 Y0 z6 u6 (by omega) (by omega) (by omega) (by omega));have E3:BH (pO P) k1 C3:=(BH.ext B3 G1);refine⟨E3,?_⟩;refine Jy 9 z (BA (c:=Ny) z Ip Pn z z z z z x (by omega) (AF.fog (AC.slN (own2.r A6) nr nr)) r6) ?_;rintro J0 B6 ⟨Z0,A⟩;have⟨C6,_⟩:=Ge y6 A e2;have D6:Nb _ p:=Gb A i2;have e:=Ah.box A e i2;have q2:Nb _ q:=Gb A D1;have d:=Ah.box A d D1;have F3:=(No.symm f3);have E6:=Gn A F3 c2;have i:=Ah.ownF A i F3;have G3:=Q5;have F6:=Gn A G3 E;have o:=Ah.ownF A o G3;have H3:=R5;have G6:=Gn A H3 M;have H6:Ns _ m c.heap.size:=Gs A l3;have j:=Ah.own2 A j H3 (by omega) l3;have I3:=m3;have I6:=Gn A I3 J;have k:=Ah.ownF A k I3;have J3:=(No.symm h6);have J6:=Gn A J3 n2;have Q:=Ah.ownF A Q J3;have K3:=HZ A Z0 e2;have K6:BH (pO P) k1 B6:=(BH.grow E3 A (fun b hg=>(Or.inl hg)));refine⟨K6,?_⟩;refine Qo z (Yl z (Bj z z) (Yl z (CK z UE) (Ef z (Ee z z z d lI Z0.cells Z0.one z) ?_)));rintro _ L6 ⟨C0,d⟩;have⟨N6,_⟩:=Eu C6 C0;have e:=e.upd C0 (by omega);have i:=i.upd C0 f2;have o:=Zo (Am o E) C0;have j:=j.upd C0 (Nb.of M) (by omega);have k:=Zo (Am k J) C0;have Q:=Q.upd C0 F1;have Z0:=Z0.upd C0 q2;refine TL.noPan (l:=[]) (Re 5 (Io hF (own2.r j) Ip MR ?_));rintro l1 _ hF _ ⟨_,_,rfl,_,O6,P6⟩;obtain⟨H1,rfl,Q6⟩:=O6;have L3:=AF.mono Q6 (S':=Iv m c.heap.size) (fun U0 a=>⟨a.1,a.2.1⟩) (fun _ _=>z);refine Yl z (GB 0 z Bn P6 z z) (Yl z (HK z Ak L3) (Ro 4 ?_));have⟨R6,S6,hF⟩:=MW hF;refine WC.loopD (fun m1 f wl=>∃(n0:Int) (n1:List Ad) (V:Value),Kn 156 [(1,.p p),(3,.p q),(7,Z),(8,L),(11,.i m0),(87,.i ((e0.c.length:Int))),(88,.i m0),(120,H1),(121,.i ((l1.length:Int))),(122,.i n0)] f∧AU w wl∧L6.heap.size<=wl.heap.size∧BO wl p [R,t,C,D,S] 34∧BO wl q [R,t,C,D,S,s,V,I0,J0,.slice none 0 0] 102∧AF cJ wl (Iv m c.heap.size) l1 H1∧AC C_Link wl (W.heap.size) (Iv 0 0) 162 n1 V∧Bd V W.heap.size wl.heap.size∧AC cJ wl (z1) (Iv 0 0) 2 h0 Z∧own2 cJ wl (m) (c.heap.size) 70 2 v0 L G0∧AC C_place wl (F0.heap.size) (Iv 0 0) 172 E0 s∧AC cJ wl (c.heap.size) (Iv 0 0) 2 j2 I0∧AC Ny wl (c.heap.size) (Iv 0 0) 70 o2 J0∧Nb V p∧Nb V q∧No V Z∧Ns V m c.heap.size∧No V L∧No V s∧No V I0∧No V J0∧Ns V m c.heap.size∧Mp n h0 m0 l1 R6 m1 n0 n1=some f0) n ?_ ?_
       ·intro f hK;exact⟨0,C1,c0,hK.sub z,N6,nr,e,d,L3,i,(fun b hg=>by have:=c2 b hg;omega),o,(own2.wide j),k,Q,Z0,L5,f2,M5,g3,N5,h3,(No.symm g6),(No.symm E6),g3,hF⟩
       ·rintro m1 f T6 ⟨n0,n1,V,hK,M3,_,N3,O3,P3,Q3,R3,S3,T3,U3,V3,W3,X3,Y3,Z3,a4,b4,c4,d4,e4,U6,hF⟩;refine EK hK ?_;rcases m1 with _|m1;exact EI hF;rw [Mp.eq_2]at hF;refine Rc 6 (Wc z hF ?_ ?_)
        ·intro hF;refine Rc 7 (Il hF P3 Ak Bb AR ?_);rintro o1 hF _;have⟨V6,W6,hF⟩:=MW hF;refine Ro 10 (WC.loopD (fun p1 f wl=>∃(o0:Int) (I1:List Ad) (B:Value),Kn 156 [(1,.p p),(3,.p q),(7,Z),(8,L),(11,.i m0),(12,.i n0),(13,.i o1),(87,.i ((e0.c.length:Int))),(88,.i m0),(120,H1),(121,.i ((l1.length:Int))),(122,.i n0),(127,.i o0)] f∧AU w wl∧T6.heap.size<=wl.heap.size∧BO wl p [R,t,C,D,S] 34∧BO wl q [R,t,C,D,S,s,B,I0,J0,.slice none 0 0] 102∧AF cJ wl (Iv m c.heap.size) l1 H1∧AC C_Link wl (W.heap.size) (Iv 0 0) 162 I1 B∧Bd B W.heap.size wl.heap.size∧AC cJ wl (z1) (Iv 0 0) 2 h0 Z∧own2 cJ wl (m) (c.heap.size) 70 2 v0 L G0∧AC C_place wl (F0.heap.size) (Iv 0 0) 172 E0 s∧AC cJ wl (c.heap.size) (Iv 0 0) 2 j2 I0∧AC Ny wl (c.heap.size) (Iv 0 0) 70 o2 J0∧Nb B p∧Nb B q∧No B Z∧Ns B m c.heap.size∧No B L∧No B s∧No B I0∧No B J0∧Ns B m c.heap.size∧Oj h0 m0 n0 o1 V6 p1 o0 I1=some f0) n ?_ ?_)
         ·intro f hK;exact⟨0,n1,V,hK.sub z,M3,nr,N3,O3,P3,Q3,(fun b hg=>by have:=R3 b hg;omega),S3,(own2.wide T3),U3,V3,W3,X3,Y3,Z3,a4,b4,c4,d4,e4,U6,hF⟩
         ·rintro p1 f _ ⟨o0,I1,B,hK,f4,_,p0,d0,q0,a1,r2,i0,r0,s0,t0,u0,s2,J1,t2,u2,g4,h4,i4,j4,v2,hF⟩;refine EK hK ?_;rcases p1 with _|p1;exact EI hF;rw [Oj.eq_2]at hF;refine Rc 6 (Wc z hF ?_ ?_)
          ·intro hF;have⟨w2,X6,hF⟩:=AO hF;have⟨Y6,Z6,hF⟩:=AO hF;refine Rc 10 ?_;refine WC.heldG (p:=(pO B)) 20 Tryz.hm fun x2 y2=>?_;have⟨a7,_⟩:=Et f4 y2;have⟨p0,d0,q0,a1,i0⟩:=Gw p0 d0 q0 a1 i0 y2;have⟨r0,s0,t0,u0⟩:=Gp r0 s0 t0 u0 y2;refine KC [0,1] ?_;refine GD 2 z (fun _ a=>Bj z z) ?_;refine GD 3 z (fun _ a=>CK z PN) ?_;refine GD 4 z (fun _ a=>have d0:=BO.but d0 a (Kh J1);(Ea z iS d0 z)) ?_;refine KC [5,6] ?_;refine VB 7 z (DO (c:=cJ) z Ak Bb z z i0 X6) ?_;rintro _ ⟨_,_,rfl,k4,b7,z2⟩;obtain rfl:=b7;refine GD 8 z (fun _ a=>have c7:No B Z:=t2;have z2:=Ab.but z2 a (Kh (fun b hg=>c7 b _ hg k4)) (by have:=E _ k4;omega);(GB 0 z AR z2 z z)) ?_;refine KC [9,10,11,12,13,14,15,16] ?_;refine GD 17 z (fun _ a=>DS [.i (wrap .i64 ((wrap .i64 (2*w2))+o0)),.i (wrap .i64 ((wrap .i64 (2*o1))+o0)),.i 2,.i n0] z z TO Vm z) ?_;refine Jy 18 z (Aq C_Link ([(Ad.mk (wrap .i64 ((wrap .i64 (2*w2))+o0)) (wrap .i64 ((wrap .i64 (2*o1))+o0)) 2 n0)]) [[.i (wrap .i64 ((wrap .i64 (2*w2))+o0)),.i (wrap .i64 ((wrap .i64 (2*o1))+o0)),.i 2,.i n0]] z Iy My z z ⟨QP,trivial⟩) ?_;rintro _ d7 ⟨_,l4,_,_,K1,e7⟩;have⟨f7,_⟩:=Et a7 K1;have⟨p0,d0,q0,a1,i0⟩:=Gw p0 d0 q0 a1 i0 K1;have⟨r0,s0,t0,u0⟩:=Gp r0 s0 t0 u0 K1;have E9:=BK l4;clear l4;have m4:BH (pO B) x2 d7:=(BH.ext (BH.refl _ x2) K1);refine⟨m4,?_⟩;refine Jy 19 z (BA (c:=C_Link) z Iy My z z z z z a1 (by omega) (AC.slf e7 nr nr) Z6) ?_;rintro g7 h7 ⟨b1,r⟩;have⟨i7,_⟩:=Ge f7 r r2;have j7:Nb _ p:=Gb r s2;have p0:=Ah.box r p0 s2;have n4:Nb _ q:=Gb r J1;have d0:=Ah.box r d0 J1;have k7:Ns _ m c.heap.size:=Gs r v2;have q0:=Ah.slr r q0 v2;have o4:=t2;have l7:=Gn r o4 E;have i0:=Ah.ownF r i0 o4;have p4:=g4;have m7:=Gn r p4 M;have n7:Ns _ m c.heap.size:=Gs r u2;have r0:=Ah.own2 r r0 p4 (by omega) u2;have q4:=h4;have o7:=Gn r q4 J;have s0:=Ah.ownF r s0 q4;have r4:=i4;have p7:=Gn r r4 n2;have t0:=Ah.ownF r t0 r4;have s4:=j4;have q7:=Gn r s4 K3;have u0:=Ah.ownF r u0 s4;have r7:=HZ r b1 r2;have s7:BH (pO B) x2 h7:=(BH.grow m4 r (fun b hg=>(Or.inl hg)));refine⟨s7,?_⟩;refine Qo z (Yl z (Bj z z) (Yl z (CK z PN) (Ef z (Ee z z z d0 iI b1.cells b1.one z) ?_)));rintro _ _ ⟨K0,d0⟩;have⟨u7,_⟩:=Eu i7 K0;have⟨p0,q0,i0⟩:=Iw p0 q0 (Am i0 E) K0;have r0:=r0.upd K0 (Nb.of M) (by omega);have s0:=Zo (Am s0 J) K0;have t0:=t0.upd K0 F1;have u0:=u0.upd K0 q2;have b1:=b1.upd K0 n4;refine TL.noPan (l:=[]) (Re 7 ?_);intro f hK;exact⟨p1,nr,(wrap .i64 (o0+1)),Y6,g7,hK.sub z,u7,(by omega),p0,d0,q0,b1,(fun b hg=>by have:=r7 b hg;omega),i0,(own2.wide r0),s0,t0,u0,j7,n4,l7,n7,m7,o7,p7,q7,k7,hF⟩
          ·intro hF;refine Rc 3 ?_
           subst W6
           refine Re 8 ?_;intro f hK;exact⟨m1,nr,(wrap .i64 (n0+1)),I1,B,hK.sub z,f4,(by omega),p0,d0,q0,a1,(fun b hg=>by have:=r2 b hg;omega),i0,(own2.wide r0),s0,t0,u0,s2,J1,t2,u2,g4,h4,i4,j4,v2,hF⟩
        ·intro hF;refine Rc 3 ?_
         subst S6
         refine Re 8 ?_;intro f hK;exact⟨j1,nr,(wrap .i64 (m0+1)),n1,V,j2,I0,o2,J0,hK.sub z,M3,(by omega),N3,O3,Q3,(fun b hg=>by have:=R3 b hg;omega),V3,(fun b hg=>by have:=n2 b hg;omega),W3,(fun b hg=>by have:=K3 b hg;omega),S3,(own2.wide T3),U3,X3,Y3,d4,e4,Z3,a4,b4,c4,f6,F1,(No.symm J6),i6,k6,j6,l6,D6,q2,F6,H6,G6,I6,hF⟩
      ·intro hF;refine Rc 3 ?_
       subst K5
       refine Re 9 ?_;cases CF hF;exact Ne z z ⟨_,z,_,_,_,_,_,_,z,d,(by omega),AC.base k,AC.base i,AC.base A0,AC.base x,AC.nil _ _ _ _ _,h3,k3,(No.symm e3),m3,(No.symm f3),(No.symm i3),(fun b U hg hq=>by first|cases hg|cases hq),(fun b U hg hq=>by first|cases hg|cases hq),(fun b U hg hq=>by first|cases hg|cases hq),(fun b U hg hq=>by first|cases hg|cases hq),d3⟩
def dV(n:Nat)(a0:List Bi):Option Int:=some ((a0.length:Int))
theorem xT{a:List Bi}{b:Int}{c:Value}(d:dV n a=some b)(g:H<=w.heap.size)(f:At C_place w H a c):
 Calls prog 138 [c].toArray w (Cf (.i b) w):=by
 have e:=AU.refl w;unfold dV at d;exact AE func138 z ntmps138 (Rc 8 (Yl z (HK z Pi (f.oj e)) (GQ d e)))
def ZT(n:Nat)(a0:Cu):Option Int:=(dV n a0.c).bind fun a=>some (wrap .i64 (2*a))
theorem AbK{a:Cu}{c:Int}{d e f g h i j k l m:Value}{o:Nat}(b:ZT n a=some c)(u:H<=w.heap.size)(p:BO w o [d,e,f,g,h,i,j,k,l,m] 102)(v:At C_Cell w H a.b.d.b d)(x:At C_Instance w H a.b.b.b e)(y:At Bc w H a.b.b.c f)(A:At C_Port w H a.b.b.d g)(B:At C_Wire w H a.b.c h)(r:At C_place w H a.c i)(C:At C_Link w H a.d j)(D:At cJ w H a.f k)(E:At Ny w H a.g l)(F:At cJ w H a.h m):
 Calls prog 94 [.p o].toArray w (Cf (.i c) w):=by
 have q:=AU.refl w;have:=BO.lt p;unfold ZT at b;refine AE func94 z ntmps94 (Rc 8 (Yl z (Bj z z) (Fl UG iV p ?_)));refine Cs b q lW (fun _ s=>(xT s (by omega) (r.oj q):)) ?_;rintro _ b _ _ ⟨t,_⟩;exact GQ b t
def dY(n:Nat)(a0:List Bool):Option Int:=some ((a0.length:Int))
theorem yA{a:List Bool}{b:Int}{c:Value}(d:dY n a=some b)(g:H<=w.heap.size)(f:At CD w H a c):
 Calls prog 95 [c].toArray w (Cf (.i b) w):=by
 have e:=AU.refl w;unfold dY at d;exact AE func95 z ntmps95 (Rc 8 (Yl z (HK z GE (f.oj e)) (GQ d e)))
def ZC(n:Nat)(a0:List BF):Option Int:=some ((a0.length:Int))
theorem pK{a:List BF}{b:Int}{c:Value}(d:ZC n a=some b)(g:H<=w.heap.size)(f:At C_Span w H a c):
 Calls prog 96 [c].toArray w (Cf (.i b) w):=by
 have e:=AU.refl w;unfold ZC at d;exact AE func96 z ntmps96 (Rc 8 (Yl z (HK z GZ (f.oj e)) (GQ d e)))
def Qj(n:Nat)(a0:Int):Option Bool:=(Ld n a0 (-1000000000) 1000000000).bind fun a=>some a
theorem XW{b:Int}{c:Bool}(a:Qj n b=some c):
 Calls prog 35 [.i b].toArray w (Cf (.bool c) w):=by
 have d:=AU.refl w;unfold Qj at a;refine AE func35 z ntmps35 (Rc 8 (Cs a d IS (fun _=>Tu) ?_));rintro _ a _ _ ⟨e,_⟩;exact GQ a e
def XK(n:Nat)(a0:BF):Option Bool:=(Qj n a0.c).bind fun c=>(cond c ((Qj n a0.b).bind fun b=>some b) (some false)).bind fun a=>some ((a&&(decide (a0.c<=a0.b))))
theorem tC{c:BF}{d:Bool}(a:XK n c=some d):
 Calls prog 97 [.agg #[.i c.c,.i c.b]].toArray w (Cf (.bool d) w):=by
 unfold XK at a;refine AE func97 z ntmps97 (Rc 2 (Ef z (AS z z) ?_));rintro _ _ ⟨_,rfl,_,_,e,b⟩;have p:=e.size;refine Ro 5 (Fl Cz AR b ?_);refine Cs a e Sb (fun _=>XW) ?_;rintro _ a _ i ⟨f,_⟩;have b:=b.ext i;refine Ro 1 (JD 4 [1] 10 6 a ?_ ?_)
 ·intro j a;refine Fl Cr AR b ?_;refine Cs a f Sb (fun _=>XW) ?_;rintro _ a _ g ⟨_,_⟩;have b:=b.ext g;cases CF a;exact Ro 1 (Gj g)
 intro j a;intro y h;have⟨k,_⟩:=Et f h;have b:=b.ext h;refine Ro 1 (Oz 6 [] 17 11 (decide (c.c<=c.b)) z ?_ ?_)
 ·exact Fl Cz AR b (Fl Cr AR b (Ro 2 (Fk)))
 exact GQ a k
def ZR(n:Nat)(a0:Int):Option Bool:=(Ld n a0 0 1000000).bind fun a=>some a
theorem uK{b:Int}{c:Bool}(a:ZR n b=some c):
 Calls prog 139 [.i b].toArray w (Cf (.bool c) w):=by
 have d:=AU.refl w;unfold ZR at a;refine AE func139 z ntmps139 (Rc 8 (Cs a d IS (fun _=>Tu) ?_));rintro _ a _ _ ⟨e,_⟩;exact GQ a e
def ZN(n:Nat)(a0:BF):Option Bool:=(XK n a0).bind fun e=>(cond e ((ZR n a0.c).bind fun a=>some a) (some false)).bind fun c=>(cond c ((ZR n a0.b).bind fun b=>some b) (some false)).bind fun d=>some d
theorem xP{c:BF}{d:Bool}(a:ZN n c=some d):
 Calls prog 98 [.agg #[.i c.c,.i c.b]].toArray w (Cf (.bool d) w):=by
 unfold ZN at a;refine AE func98 z ntmps98 (Rc 2 (Ef z (AS z z) ?_));rintro _ _ ⟨_,rfl,_,_,e,b⟩;have t:=e.size;refine Ro 5 (Yl z (Ci z Fs b CU) ?_);refine Cs a e jH (fun _=>tC) ?_;rintro _ a _ i ⟨f,_⟩;have b:=b.ext i;refine Ro 1 (JD 4 [1] 9 5 a ?_ ?_)
 ·intro j a;refine Fl Cz AR b ?_;refine Cs a f Zv (fun _=>uK) ?_;rintro _ a _ g ⟨_,_⟩;have b:=b.ext g;cases CF a;exact Ro 1 (Gj g)
 intro j a;intro D H;have⟨h,_⟩:=Et f H;have b:=b.ext H;refine Ro 1 (JD 4 [] 14 10 a ?_ ?_)
 ·intro k a;refine Fl Cr AR b ?_;refine Cs a h Zv (fun _=>uK) ?_;rintro _ a _ l ⟨_,_⟩;cases CF a;exact Ro 1 (Gj l)
 intro k a;intro K m;have⟨o,_⟩:=Et h m;exact GQ a o
def LR(n:Nat)(a1:Au)(k0:Int->Option Bool):Nat->Int->Option Bool
 |0,_=>none
 |m+1,a=>cond (decide (a<(a1.c.length:Int))) ((AL a1.c a).bind fun j=>(AL a1.b a).bind fun k=>(XK n k).bind fun i=>(cond (!i) (some true) ((AL a1.f a).bind fun g=>(ZN n g).bind fun h=>some (!h))).bind fun f=>(cond f (some true) ((cond (!j) ((AL a1.b a).bind fun d=>(cond (!((d.c==0)&&(d.b==0))) (some true) ((AL a1.f a).bind fun c=>some ((!((c.c==0)&&(c.b==0)))))).bind fun e=>some e) (some false)).bind fun b=>some b)).bind fun b=>cond b (some false) (LR n a1 k0 m (wrap .i64 (a+1)))) (k0 a)
def ZY(n:Nat)(a0:Cu)(a1:Au):Option Bool:=(ZT n a0).bind fun a=>(dY n a1.c).bind fun c=>(cond (c !=a) (some true) ((ZC n a1.b).bind fun e=>some ((e !=a)))).bind fun d=>(cond d (some true) ((ZC n a1.f).bind fun f=>some ((f !=a)))).bind fun b=>cond b (some false) (LR n a1 (fun g=>some true) n 0)
theorem wR{d:Cu}{f:Au}{l:Bool}{A B C D E F G I J K:Value}{L:Nat}{m M N:Value}(a:ZY n d f=some l)(hH:H<=w.heap.size)(i:BO w L [A,B,C,D,E,F,G,I,J,K] 102)(Z:At C_Cell w H d.b.d.b A)(a0:At C_Instance w H d.b.b.b B)(b0:At Bc w H d.b.b.c C)(c0:At C_Port w H d.b.b.d D)(d0:At C_Wire w H d.b.c E)(e0:At C_place w H d.c F)(f0:At C_Link w H d.d G)(g0:At cJ w H d.f I)(h0:At Ny w H d.g J)(i0:At cJ w H d.h K)(o:At CD w H f.c m)(p:At C_Span w H f.b M)(q:At C_Span w H f.f N):
 Calls prog 60 [.p L,.agg #[m,M,N]].toArray w (Cf (.bool l) w):=by
 have:=BO.lt i;unfold ZY at a;refine AE func60 z ntmps60 (Rc 2 (Ef z (AS z z) ?_));rintro _ _ ⟨j0,rfl,_,_,c,b⟩;have E0:=c.size;have i:=i.ext c;refine Ro 6 (Cs a c oW (fun _ e=>(AbK e (by omega) i (Z.oj c) (a0.oj c) (b0.oj c) (c0.oj c) (d0.oj c) (e0.oj c) (f0.oj c) (g0.oj c) (h0.oj c) (i0.oj c):)) ?_);rintro _ a _ k0 ⟨O,_⟩;have b:=b.ext k0;refine Ro 6 (Fl Gm JZ b ?_);refine Cs a O rA (fun _ e=>(yA e (by omega) (o.oj O):)) ?_;rintro _ a _ l0 ⟨r,_⟩;have b:=b.ext l0;refine Ro 3 (PI 6 [3,5] 21 15 a ?_ ?_)
 ·intro m0 a;refine Fl EY El b ?_;refine Cs a r iU (fun _ e=>(pK e (by omega) (p.oj r):)) ?_;rintro _ a _ P ⟨_,_⟩;have b:=b.ext P;cases CF a;exact Ro 2 (Ro 1 (Gj P))
 intro m0 a;intro P0 Q;have⟨s,_⟩:=Et r Q;have b:=b.ext Q;refine Ro 1 (PI 6 [3] 28 22 a ?_ ?_)
 ·intro n0 a;refine Fl GU El b ?_;refine Cs a s iU (fun _ e=>(pK e (by omega) (q.oj s):)) ?_;rintro _ a _ R ⟨_,_⟩;have b:=b.ext R;cases CF a;exact Ro 2 (Ro 1 (Gj R))
 intro n0 a;intro o0 S;have⟨t,_⟩:=Et s S;have b:=b.ext S;refine Ro 2 (Wt a t ?_);intro a;refine Rc 5 (Gz Gm JZ b GE (o.oj t) (Ro 4 ?_));refine WC.loopD (fun g j wl=>∃h:Int,Kn 76 [(3,.p j0),(30,m),(31,.i ((f.c.length:Int))),(32,.i h)] j∧AU o0 wl∧LR n f (fun h=>(some true)) g h=some l) n ?_ ?_
 ·intro j hK;exact⟨0,hK.sub z,AU.refl _,a⟩
 ·rintro g j _ ⟨h,hK,u,a⟩;refine EK hK ?_;rcases g with _|g;exact EI a;rw [LR.eq_2]at a;have⟨k,_⟩:=Et t u;have b:=b.ext u;refine Rc 6 (Wf a k ?_);intro a;refine Rc 7 (Il a (o.oj k) GE Gl Gi ?_);rintro _ a _;refine Ro 6 (Fl EY El b (Ro 1 (Ix a (p.oj k) GZ CU ?_)));rintro T _ a _ ⟨_,_,_,rfl,_,p0,q0⟩;obtain rfl:=Bp p0;refine Yl z (FT (us:=[.i T.c,.i T.b]) z Fs q0 CU) ?_;refine Cs a k jH (fun _=>tC) ?_;rintro _ a _ U ⟨v,_⟩;have b:=b.ext U;refine Ro 2 (PI 8 [3,6,7,30,31,32] 52 44 a ?_ ?_)
  ·intro r0 a;refine Fl GU El b (Ro 1 (Ix a (q.oj v) GZ CU ?_));rintro V _ a _ ⟨_,_,_,rfl,_,s0,t0⟩;obtain rfl:=Bp s0;refine Yl z (FT (us:=[.i V.c,.i V.b]) z Fs t0 CU) ?_;refine Cs a v tG (fun _=>xP) ?_;rintro _ a _ W ⟨_,_⟩;have b:=b.ext W;cases CF a;exact Ro 1 (Ro 1 (Gj W))
  intro r0 a;intro q1 x;have⟨y,_⟩:=Et v x;have b:=b.ext x;refine Ro 1 (OD 21 [3,30,31,32] 74 53 a ?_ ?_)
  ·intro u0 a;refine Ro 3 (Iz 17 [3,30,31,32,53,54,55,56] 73 56 a ?_ ?_)
   ·intro v0 a;refine Fl EY El b (Ro 1 (Ix a (p.oj y) GZ CU ?_));rintro X _ a _ ⟨_,_,_,rfl,_,w0,x0⟩;obtain rfl:=Bp w0;refine Yl z (FT (us:=[.i X.c,.i X.b]) z Fs x0 CU) (Yl z (Bt (uss:=[]) (out:=[.i 0,.i 0]) z z GS JL z z) (Yl z (vC z z z WK (WO _ _) z) (Ro 1 (OD 8 [3,30,31,32,53,54,55,56,57,58,59,60,61,62,63,64] 72 64 a ?_ ?_))))
    ·intro y0 a;refine Fl GU El b (Ro 1 (Ix a (q.oj y) GZ CU ?_));rintro Y _ a _ ⟨_,_,_,rfl,_,z0,A0⟩;obtain rfl:=Bp z0;refine Yl z (FT (us:=[.i Y.c,.i Y.b]) z Fs A0 CU) (Yl z (Bt (uss:=[]) (out:=[.i 0,.i 0]) z z GS JL z z) (Yl z (vC z z z WK (WO _ _) z) ?_));cases CF a;exact Ro 1 (Fk)
    intro y0 a;cases CF a;exact Ro 1 (Fk)
   intro v0 a;cases CF a;exact Ro 1 (Fk)
  intro u0 a;refine Ro 2 (Wt a y ?_);intro a;refine Rc 8 ?_;intro j hK;exact⟨g,nr,(wrap .i64 (h+1)),hK.sub z,(AU.trans (AU.trans u U) x),a⟩
def hE(n:Nat)(a0:AJ)(a1:Au):Option ((Option Cu)×Int):=(cE n a0).bind fun b=>cond (!b) (some (none,1)) ((tD n a0).bind fun a=>(ZY n ((Cu.mk a0 a.c a.d a.f a.g a.h)) a1).bind fun c=>cond (!c) (some (none,1)) (some ((some ((Cu.mk a0 a.c a.d a.f a.g a.h))),0)))
theorem AbY{f:AJ}{x:Au}{y:(Option Cu)×Int}{A B C D E L M N:Value}(a:hE n f x=some y)(c:H<=w.heap.size)(F:At C_Cell w H f.d.b A)(G:At C_Instance w H f.b.b B)(I:At Bc w H f.b.c C)(J:At C_Port w H f.b.d D)(K:At C_Wire w H f.c E)(S:At CD w H x.c L)(T:At C_Span w H x.b M)(U:At C_Span w H x.f N):
 Calls prog 27 [.agg #[A,B,C,D,E],.agg #[L,M,N]].toArray w (Fu fun V d=>∃p0_0,V= .tuple #[p0_0,.i y.2]∧eL y.1 (p0_0= .pointer none) (fun x0_0=>∃b0_0 g h i j k,p0_0= .p b0_0∧BO d b0_0 [A,B,C,D,E,g,h,i,j,k] 102∧w.heap.size<=b0_0∧AC C_place d w.heap.size (Iv 0 0) 172 x0_0.c g∧AC C_Link d w.heap.size (Iv 0 0) 162 x0_0.d h∧AC cJ d w.heap.size (Iv 0 0) 2 x0_0.f i∧AC Ny d w.heap.size (Iv 0 0) 70 x0_0.g j∧AC cJ d w.heap.size (Iv 0 0) 2 x0_0.h k∧No h g∧No i g∧No i h∧No j g∧No j h∧No j i∧No k g∧No k h∧No k i∧No k j)∧AU w d):=by
 unfold hE at a;refine AE func27 z ntmps27 (Rc 2 (Ef z (AS z z) ?_));rintro _ _ ⟨_,rfl,_,_,O,l⟩;have n0:=O.size;refine Ef z (AS z z) ?_;rintro _ _ ⟨_,rfl,_,_,P,o⟩;have⟨m,_⟩:=Et O P;have l:=l.ext P;refine Ro 7 (Yl z (Ci z CR l Bv) ?_);refine Cs a m rH (fun _ p=>(AbO p (by omega) (F.oj m) (G.oj m) (I.oj m) (J.oj m) (K.oj m):)) ?_;rintro _ a _ W ⟨e,_⟩;have⟨l,o⟩:=Di l o W;refine Ro 3 (Wc z a ?_ ?_)
 ·intro a;cases CF a;exact Rc 8 (Ne z z ⟨_,z,_,z,z,e⟩)
 ·intro a;refine Rc 4 (Yl z (Ci z CR l Bv) ?_);refine Cg a tJ (fun _ p=>(W_5 p (by omega) (F.oj e) (G.oj e) (I.oj e) (J.oj e) (K.oj e):)) ?_;rintro _ a _ _ ⟨_,_,_,_,_,_,rfl,q,X,r,s,t,u,v,Y,Z,a0,b0,c0,d0,e0,f0,g0,h0,Q⟩;have⟨b,_⟩:=Et e Q;have o:=o.ext Q;have F0:=AC.blk r;have G0:=AC.blk s;have H0:=AC.blk t;have I0:=AC.blk u;have J0:=AC.blk v;have:=X;have:=BO.lt q;refine Ro 7 (Yl z (Ci z Ep o DT) ?_);refine Cs a b rT (fun _ p=>(wR p nr q (F.ph c b) (G.ph c b) (I.ph c b) (J.ph c b) (K.ph c b) (AC.slf r nz nr) (AC.slf s nz nr) (AC.slf t nz nr) (AC.slf u nz nr) (AC.slf v nz nr) (S.ph c b) (T.ph c b) (U.ph c b):)) ?_;rintro _ a _ i0 ⟨R,_⟩;have⟨q,r,s,t,u,v⟩:=JQ q r s t u v i0;refine Ro 3 (Wc z a ?_ ?_)
  ·intro a;cases CF a;exact Rc 8 (Ne z z ⟨_,z,_,z,z,R⟩)
  ·intro a;cases CF a;exact Rc 10 (Ne z z ⟨_,z,_,z,⟨_,_,_,_,_,_,z,q,(by omega),AC.base r,AC.base s,AC.base t,AC.base u,AC.base v,Y,Z,a0,b0,c0,d0,e0,f0,g0,h0⟩,R⟩)
def XH(n:Nat)(a0:BS):Option Bool:=(Qj n a0.c).bind fun e=>(cond e ((Qj n a0.d).bind fun a=>some a) (some false)).bind fun c=>(cond c ((Ld n a0.b 0 1000000000).bind fun b=>some b) (some false)).bind fun d=>some d
theorem qQ{c:BS}{d:Bool}(a:XH n c=some d):
 Calls prog 28 [.agg #[.i c.c,.i c.d,.i c.b]].toArray w (Cf (.bool d) w):=by
 unfold XH at a;refine AE func28 z ntmps28 (Rc 2 (Ef z (AS z z) ?_));rintro _ _ ⟨_,rfl,_,_,e,b⟩;have t:=e.size;refine Ro 5 (Fl Ps AR b ?_);refine Cs a e Sb (fun _=>XW) ?_;rintro _ a _ i ⟨f,_⟩;have b:=b.ext i;refine Ro 1 (JD 4 [1] 10 6 a ?_ ?_)
 ·intro j a;refine Fl Pg AR b ?_;refine Cs a f Sb (fun _=>XW) ?_;rintro _ a _ g ⟨_,_⟩;have b:=b.ext g;cases CF a;exact Ro 1 (Gj g)
 intro j a;intro D H;have⟨h,_⟩:=Et f H;have b:=b.ext H;refine Ro 1 (JD 4 [] 15 11 a ?_ ?_)
 ·intro k a;refine Fl MH AR b ?_;refine Cs a h IS (fun _=>Tu) ?_;rintro _ a _ l ⟨_,_⟩;cases CF a;exact Ro 1 (Gj l)
 intro k a;intro K m;have⟨o,_⟩:=Et h m;exact GQ a o
def VG(n:Nat)(a0:AJ)(a1:Au)(a2:BS):Option ((Option Cu)×Int):=(hE n a0 a1).bind fun a=>OQ a.1 (cond (a.2 !=0) (some (none,a.2)) ((XH n a2).bind fun c=>cond (!c) (some (none,2)) (some (none,0)))) (fun b=>cond (a.2 !=0) (some (none,a.2)) ((XH n a2).bind fun d=>cond (!d) (some (none,2)) (some ((some ((Cu.mk a0 b.c b.d b.f b.g b.h))),0))))
theorem qO{d:AJ}{l:Au}{m:BS}{x:(Option Cu)×Int}{y A B C D F G I:Value}(a:VG n d l m=some x)(o0:H<=w.heap.size)(Q:At C_Cell w H d.d.b y)(R:At C_Instance w H d.b.b A)(S:At Bc w H d.b.c B)(T:At C_Port w H d.b.d C)(U:At C_Wire w H d.c D)(V:At CD w H l.c F)(W:At C_Span w H l.b G)(X:At C_Span w H l.f I):
 Calls prog 13 [.agg #[y,A,B,C,D],.agg #[F,G,I],.agg #[.i m.c,.i m.d,.i m.b]].toArray w (Fu fun Y c=>∃p0_0,Y= .tuple #[p0_0,.i x.2]∧eL x.1 (p0_0= .pointer none) (fun x0_0=>∃b0_0 e f g h i,p0_0= .p b0_0∧BO c b0_0 [y,A,B,C,D,e,f,g,h,i] 102∧w.heap.size<=b0_0∧AC C_place c w.heap.size (Iv 0 0) 172 x0_0.c e∧AC C_Link c w.heap.size (Iv 0 0) 162 x0_0.d f∧AC cJ c w.heap.size (Iv 0 0) 2 x0_0.f g∧AC Ny c w.heap.size (Iv 0 0) 70 x0_0.g h∧AC cJ c w.heap.size (Iv 0 0) 2 x0_0.h i∧No f e∧No g e∧No g f∧No h e∧No h f∧No h g∧No i e∧No i f∧No i g∧No i h)∧AU w c):=by
 unfold VG at a;refine AE func13 z ntmps13 (Rc 2 (Ef z (AS z z) ?_));rintro _ _ ⟨_,rfl,_,_,J,k⟩;have t0:=J.size;refine Ef z (AS z z) ?_;rintro _ _ ⟨_,rfl,_,_,K,E⟩;have⟨Z,_⟩:=Et J K;have k:=k.ext K;refine Ef z (AS z z) ?_;rintro _ _ ⟨_,rfl,_,_,L,j⟩;have⟨b,_⟩:=Et Z L;have⟨k,E⟩:=Di k E L;refine Ro 6 (Yl z (Ci z CR k Bv) (Yl z (Ci z Ep E DT) ?_));have⟨a0,b0,a⟩:=AO a;refine Ef z (GO z tW (AbY b0 (by omega) (Q.oj b) (R.oj b) (S.oj b) (T.oj b) (U.oj b) (V.oj b) (W.oj b) (X.oj b):)) ?_;rintro _ _ ⟨_,rfl,M,N⟩;have⟨o,_⟩:=Et b N;have j:=j.ext N
 rcases p:a0.1 with _|H0
 ·replace a:=Yc p a;obtain rfl:=cM p M;refine Ro 16 (Wc z a ?_ ?_)
  ·intro a;cases CF a;exact Rc 10 (Ne z z ⟨_,z,_,z,z,o⟩)
  ·intro a;refine Rc 2 (Yl z (Ci z Ga j FL) ?_);refine Cs a o jB (fun _=>qQ) ?_;rintro _ a _ c0 ⟨O,_⟩;have j:=j.ext c0;refine Ro 4 (Wc z a ?_ ?_)
   ·intro a;cases CF a;exact Rc 9 (Ne z z ⟨_,z,_,z,z,O⟩)
   ·intro a;cases CF a;exact Rc 11 (Ne z z ⟨_,z,_,z,z,O⟩)
 ·replace a:=aQ p a;obtain⟨_,_,_,_,_,_,rfl,q,_,r,s,t,u,v,d0,e0,f0,g0,h0,i0,j0,k0,l0,m0⟩:=bX p M;have S0:=AC.blk r;have T0:=AC.blk s;have U0:=AC.blk t;have V0:=AC.blk u;have W0:=AC.blk v;have:=BO.lt q;refine Ro 16 (Wc z a ?_ ?_)
  ·intro a;cases CF a;exact Rc 10 (Ne z z ⟨_,z,_,z,z,o⟩)
  ·intro a;refine Rc 2 (Yl z (Ci z Ga j FL) ?_);refine Cs a o jB (fun _=>qQ) ?_;rintro _ a _ n0 ⟨P,_⟩;have⟨q,r,s,t,u,v⟩:=JQ q r s t u v n0;refine Ro 4 (Wc z a ?_ ?_)
   ·intro a;cases CF a;exact Rc 9 (Ne z z ⟨_,z,_,z,z,P⟩)
   ·intro a;cases CF a;exact Rc 11 (Ne z z ⟨_,z,_,z,⟨_,_,_,_,_,_,z,q,(by omega),AC.base r,AC.base s,AC.base t,AC.base u,AC.base v,d0,e0,f0,g0,h0,i0,j0,k0,l0,m0⟩,P⟩)
def Na(n:Nat)(i26:Int)(x53:BL)(k2:(List BP)->Int->Option (List BP)):Nat->(List BP)->Int->Option (List BP)
 |0,_,_=>none
 |m+1,b,a=>cond (decide (a<(x53.c.length:Int))) ((AL x53.c a).bind fun e=>(TR n e.b).bind fun c=>cond c ((De b ([(BP.mk i26 a 0 0),(BP.mk i26 a 1 0)]) 32).bind fun d=>Na n i26 x53 k2 m d (wrap .i64 (a+1))) (Na n i26 x53 k2 m b (wrap .i64 (a+1)))) (k2 b a)
def Mm(n:Nat)(a0:AJ)(k0:(List BP)->Int->Option (List BP)):Nat->(List BP)->Int->Option (List BP)
 |0,_,_=>none
 |m+1,b,a=>cond (decide (a<(a0.b.b.length:Int))) ((AL a0.b.b a).bind fun c=>(AL a0.d.b c.b).bind fun d=>Na n a d (fun e f=>Mm n a0 k0 m e (wrap .i64 (a+1))) n b 0) (k0 b a)
def sI(n:Nat)(a0:AJ):Option (List BP):=Mm n a0 (fun a b=>some a) n (([]:List BP)) 0
theorem W_x{h:AJ}{y:List BP}{A m B C D:Value}(a:sI n h=some y)(hH:H<=w.heap.size)(i0:At C_Cell w H h.d.b A)(P:At C_Instance w H h.b.b m)(M0:At Bc w H h.b.c B)(N0:At C_Port w H h.b.d C)(O0:At C_Wire w H h.c D):
 Calls prog 44 [.agg #[A,m,B,C,D]].toArray w (Fu fun j0 Q=>∃R,j0=R∧AC C_Check Q w.heap.size (Iv 0 0) 56 y R∧AU w Q):=by
 unfold sI at a;refine AE func44 z ntmps44 (Rc 2 (Ef z (AS z z) ?_));rintro _ i ⟨k,rfl,_,_,G,S⟩;have R0:=G.size;refine Ro 11 (Yl z (CK z DR) (Yl z (CK z Dz) (Yl z (Ea z GR S z) (Yl z (HK z Gg (P.oj G)) (Ro 4 ?_)))));have k0:AC C_Check i (i.heap.size) (Iv 0 0) 56 [] (.slice none 0 0):=AC.nil _ _ _ _ _;have T:Bd (Value.slice none 0 0) i.heap.size i.heap.size:=Hp;refine WC.loopD (fun u g wl=>∃(o:List BP) (p:Value) (b:Int),Kn 46 [(1,.p k),(3,p),(10,m),(11,.i ((h.b.b.length:Int))),(12,.i b)] g∧AU w wl∧i.heap.size<=wl.heap.size∧BO wl k [A,m,B,C,D] 34∧AC C_Check wl (i.heap.size) (Iv 0 0) 56 o p∧Bd p i.heap.size wl.heap.size∧Nb p k∧Mm n h (fun o b=>(some o)) u o b=some y) n ?_ ?_
 ·intro g hK;exact⟨(([]:List BP)),((.slice none 0 0)),0,hK.sub z,G,nr,S,k0,(fun j hg=>by have:=T j hg;omega),(Nb.of T),a⟩
 ·rintro u g _ ⟨o,p,b,hK,I,_,q,r,U,l0,a⟩;refine EK hK ?_;rcases u with _|u;exact EI a;rw [Mm.eq_2]at a;refine Rc 6 (Wc z a ?_ ?_)
  ·intro a;refine Rc 7 (Ix a (P.oj I) Gg Dj ?_);rintro V _ a _ ⟨_,_,_,rfl,_,m0,n0⟩;obtain⟨o0,rfl,J⟩:=Bz m0;refine Yl z (FT (us:=[.string V.f,.i V.b,o0]) z La n0 Dj) (Ef z (AZ z Mj) ?_);rintro _ _ ⟨_,rfl,_,_,W,K⟩;have⟨p0,_⟩:=Et I W;have⟨q,J,r⟩:=FE q J r W;refine Ro 1 (Ef z (DQ z K Dj (AB z (AB z (AB (AF.one J) BC))) z) ?_);rintro _ q0 ⟨X,K⟩;have⟨Y,_⟩:=Eu p0 X;have⟨q,r⟩:=PH q (Am r U) X;refine Ro 4 (Yl z (CK z HG) (Yl z (CK z Ej) (Yl z (Ea z HJ q z) (Fl FC AR K (Ix a (i0.oj Y) JH By ?_)))));rintro L _ a _ ⟨_,_,_,rfl,_,s0,t0⟩;obtain⟨_,Z,_,rfl,_,a0,_⟩:=DU s0;refine Fc Da Fm t0 (Yl z (HK z EB a0) (Ro 4 ?_));have⟨u0,v0,a⟩:=MW a;refine WC.loopD (fun s g wl=>∃(v:List BP) (l:Value) (e:Int),Kn 46 [(1,.p k),(3,l),(4,.i b),(10,m),(11,.i ((h.b.b.length:Int))),(12,.i b),(24,Z),(25,.i ((L.c.length:Int))),(26,.i e)] g∧AU w wl∧q0.heap.size<=wl.heap.size∧BO wl k [A,m,B,C,D] 34∧AF C_Arc wl (Iv 0 H) L.c Z∧AC C_Check wl (i.heap.size) (Iv 0 0) 56 v l∧Bd l i.heap.size wl.heap.size∧Nb l k∧Na n b L u0 s v e=some y) n ?_ ?_
   ·intro g hK;exact⟨o,p,0,hK.sub z,Y,nr,q,a0,r,(fun j hg=>by have:=U j hg;omega),l0,a⟩
   ·rintro s g _ ⟨v,l,e,hK,b0,_,c,d,f,t,E,a⟩;refine EK hK ?_;rcases s with _|s;exact EI a;rw [Na.eq_2]at a;refine Rc 6 (Wc z a ?_ ?_)
    ·intro a;refine Rc 7 (Ix a d EB Ct ?_);rintro F _ a _ ⟨_,_,_,rfl,_,w0,x0⟩;obtain⟨y0,z0,rfl,M,N⟩:=Cx w0;refine Yl z (FT (us:=[.i F.b,.i F.d,.i F.c,.i F.g,y0,z0]) z Gv x0 Ct) (Ef z (AZ z HU) ?_);rintro _ _ ⟨_,rfl,_,_,c0,O⟩;have⟨A0,_⟩:=Et b0 c0;have⟨c,d,M,N,f⟩:=Gw c d M N f c0;refine Ro 1 (Ef z (DQ z O Ct (AB z (AB z (AB z (AB z (AB (AF.one M) (AB (AF.one N) BC)))))) z) ?_);rintro _ _ ⟨d0,O⟩;have⟨C0,_⟩:=Eu A0 d0;have⟨c,d,f⟩:=Iw c d (Am f t) d0;refine Ro 4 (Fl EX AR O ?_);refine Cs a C0 Ys (fun _=>mI) ?_;rintro _ a _ D0 ⟨e0,_⟩;have⟨c,d,f⟩:=FE c d f D0;refine Ro 2 (Wc z a ?_ ?_)
     ·intro a;refine Rc 4 (Yl z (DS [.i b,.i e,.i 0,.i 0] z z So Xr z) (Ro 2 (Yl z (DS [.i b,.i e,.i 1,.i 0] z z So Xr z) (Ef z (Aq C_Check ([(BP.mk b e 0 0),(BP.mk b e 1 0)]) [[.i b,.i e,.i 0,.i 0],[.i b,.i e,.i 1,.i 0]] z IG RD z z ⟨MK,MK,trivial⟩) ?_))));rintro _ _ ⟨_,f0,_,_,g0,E0⟩;have⟨F0,_⟩:=Et e0 g0;have⟨c,d,f⟩:=FE c d f g0;have L1:=BK f0;clear f0;have⟨G0,H0,a⟩:=AO a;refine Ef z (BA (c:=C_Check) z IG RD z z z z z f (by omega) (AC.slf E0 nr nr) H0) ?_;rintro I0 _ ⟨h0,x⟩;have⟨J0,_⟩:=Ge F0 x t;have K0:Nb _ k:=Gb x E;have c:=Ah.box x c E;have d:=Ah.slr x d (Ns.of t);have L0:=HZ x h0 t;refine Ro 9 ?_;intro g hK;exact⟨s,nr,G0,I0,(wrap .i64 (e+1)),hK.sub z,J0,(by omega),c,d,h0,(fun j hg=>by have:=L0 j hg;omega),K0,a⟩
     ·intro a;refine Rc 8 ?_;intro g hK;exact⟨s,nr,v,l,(wrap .i64 (e+1)),hK.sub z,e0,(by omega),c,d,f,(fun j hg=>by have:=t j hg;omega),E,a⟩
    ·intro a;refine Rc 3 ?_
     subst v0
     refine Re 8 ?_;intro g hK;exact⟨u,nr,v,l,(wrap .i64 (b+1)),hK.sub z,b0,(by omega),c,f,(fun j hg=>by have:=t j hg;omega),E,a⟩
  ·intro a;cases CF a;exact Rc 12 (Ne z z ⟨_,z,_,z,AC.base r,I⟩)
def eU(n:Nat)(a0:Bi)(a1:Int)(a2:Int):Option Bool:=some ((((a0.c==a1))&&((a0.f==a2))))
theorem xH{a:Bi}{f d:Int}{g:Bool}{h:Nat}(i:eU n a f d=some g)(b:BO w H [.i f] 2)(c:BO w h [.i d] 2):
 Calls prog 100 [.agg #[.i a.c,.i a.f,.i a.b,.bool a.d],.p H,.p h].toArray w (Cf (.bool g) w):=by
 have:=BO.lt b;have:=BO.lt c;unfold eU at i;refine AE func100 z ntmps100 (Rc 2 (Ef z (AS z z) ?_));rintro _ _ ⟨_,rfl,_,_,e,j⟩;have p:=e.size;have⟨b,c⟩:=Di b c e;refine Ro 5 (Fl Rp AR j (Yl z (Ea z AR b z) (Ro 2 (Oz 5 [] 14 9 ((a.f==d)) z ?_ ?_))))
 ·exact Fl UM AR j (Yl z (Ea z AR c z) (Ro 2 (Fk)))
 exact GQ i e
def LM(n:Nat)(a0:List Bi)(a1c0:Int)(a1c1:Int)(k0:Int->Option Int):Nat->Int->Option Int
 |0,_=>none
 |m+1,a=>cond (decide (a<(a0.length:Int))) ((AL a0 a).bind fun b=>(eU n b a1c0 a1c1).bind fun c=>cond c (some a) (LM n a0 a1c0 a1c1 k0 m (wrap .i64 (a+1)))) (k0 a)
def fJ(n:Nat)(a0:List Bi)(a1c0:Int)(a1c1:Int):Option Int:=LM n a0 a1c0 a1c1 (fun a=>some (-1)) n 0
theorem vY{f:List Bi}{k l m:Int}{o:Value}{p q:Nat}(a:fJ n f k l=some m)(A:H<=w.heap.size)(r:At C_place w H f o)(g:BO w p [.i k] 2)(h:BO w q [.i l] 2):
 Calls prog 99 [o,.func (.func 100) #[] [.p p,.p q].toArray].toArray w (Cf (.i m) w):=by
 have t:=AU.refl w;have:=BO.lt g;have:=BO.lt h;unfold fJ at a;refine AE func99 z ntmps99 (Rc 9 (Yl z (HK z Pi (r.oj t)) (Ro 4 ?_)));refine WC.loopD (fun c i wl=>∃d:Int,Kn 19 [(0,o),(1,.func (.func 100) #[] [.p p,.p q].toArray),(7,.i ((f.length:Int))),(8,.i d)] i∧AU w wl∧LM n f k l (fun d=>(some (-1))) c d=some m) n ?_ ?_
 ·intro i e;exact⟨0,e.sub z,AU.refl _,a⟩
 ·rintro c i _ ⟨d,e,b,a⟩;refine EK e ?_;rcases c with _|c;exact EI a;rw [LM.eq_2]at a;have C:=b.size;have⟨g,h⟩:=Di g h b;refine Rc 6 (Wf a b ?_);intro a;refine Rc 15 (Ix a (r.oj b) Pi IU ?_);rintro j _ a _ ⟨_,_,_,rfl,_,u,v⟩;obtain rfl:=Hx u;refine Yl z (FT (us:=[.i j.c,.i j.f,.i j.b,.bool j.d]) z Rt v IU) ?_;have⟨_,x,a⟩:=AO a;refine Ef z (Gx z nQ z z (xH x g h:)) ?_;rintro _ _ ⟨rfl,s⟩;have⟨y,_⟩:=Et b s;refine Ro 2 (Wt a y ?_);intro a;refine Rc 8 ?_;intro i e;exact⟨c,nr,(wrap .i64 (d+1)),e.sub z,(AU.trans b s),a⟩
def Wx(n:Nat)(a0:Ae)(a1:Int)(a2:Int):Option Int:=(fK n a0).bind fun b=>(fJ n b a1 a2).bind fun a=>some a
theorem xI{d:Ae}{h i j:Int}{k l m:Value}(a:Wx n d h i=some j)(B:H<=w.heap.size)(t:At C_Instance w H d.b k)(u:At Bc w H d.c l)(v:At C_Port w H d.d m):
 Calls prog 62 [.agg #[k,l,m],.i h,.i i].toArray w (Cf (.i j) w):=by
 unfold Wx at a;refine AE func62 z ntmps62 (Rc 2 (Ef z (AS z z) ?_));rintro _ _ ⟨_,rfl,_,_,o,b⟩;have G:=o.size;refine Ef z (AS z z) ?_;rintro _ _ ⟨_,rfl,_,_,p,c⟩;have⟨x,_⟩:=Et o p;have b:=b.ext p;refine Ef z (AS z z) ?_;rintro _ _ ⟨_,rfl,_,_,q,f⟩;have⟨e,_⟩:=Et x q;have⟨b,c⟩:=Di b c q;refine Ro 5 (Yl z (Ci z FB b EZ) ?_);refine Cg a Tz (fun _ g=>(sM g (by omega) (t.oj e) (u.oj e) (v.oj e):)) ?_;rintro _ a _ _ ⟨_,rfl,r,s⟩;have⟨y,_⟩:=Et e s;have⟨c,f⟩:=Di c f s;have W:=AC.blk r;refine Yl z (HQ z z z) ?_;refine Cs a y uC (fun _ g=>(vY g nr (AC.slf r nz nr) c f:)) ?_;rintro _ a _ _ ⟨A,_⟩;exact GQ a A
def YM(n:Nat)(a0:BL):Option Int:=cond (a0.b==1) (some (-1)) ((cond (a0.b==2) ((Uf n a0 2).bind fun b=>some b) (some false)).bind fun a=>cond a (some 0) (some 1))
theorem zA{b:BL}{e:Int}{f g h:Value}(a:YM n b=some e)(r:H<=w.heap.size)(j:At C_Pin w H b.d f)(k:At C_Arc w H b.c g)(l:At cJ w H b.g h):
 Calls prog 63 [.agg #[.string b.f,.i b.b,f,g,h,.i b.h,.i b.i]].toArray w (Cf (.i e) w):=by
 unfold YM at a;refine AE func63 z ntmps63 (Rc 2 (Ef z (AS z z) ?_));rintro _ _ ⟨_,rfl,_,_,c,d⟩;have x:=c.size;refine Ro 7 (Fl NA AR d (Ro 4 (Wt a c ?_)));intro a;refine Rc 2 (Fl NA AR d (Ro 2 (JD 3 [] 14 11 a ?_ ?_)))
 ·intro m a;refine Yl z (Ci z Db d By) ?_;refine Cs a c Om (fun _ o=>(nO o (by omega) (j.oj c) (k.oj c) (l.oj c):)) ?_;rintro _ a _ p ⟨_,_⟩;cases CF a;exact Ro 1 (Gj p)
 intro m a;intro D q;have⟨i,_⟩:=Et c q;refine Ro 3 (Wt a i ?_);intro a;exact Xn a i
def SP(n:Nat)(a0:Cu)(a1:BP):Option (Int×Int):=(AL a0.b.b.b a1.c).bind fun e=>(AL a0.b.d.b e.b).bind fun c=>(AL c.c a1.d).bind fun a=>(Wx n a0.b.b a1.c 0).bind fun b=>(YM n c).bind fun d=>some (wrap .i64 ((wrap .i64 (2*(wrap .i64 (b+a.c))))+a1.f),wrap .i64 ((wrap .i64 (2*(wrap .i64 (b+a.d))))+d))
theorem rI{g:Cu}{j:BP}{r:Int×Int}{y k l m A B C D E F:Value}{G:Nat}(hF:SP n g j=some r)(hH:H<=w.heap.size)(b:BO w G [y,k,l,m,A,B,C,D,E,F] 102)(P:At C_Cell w H g.b.d.b y)(I:At C_Instance w H g.b.b.b k)(Q:At Bc w H g.b.b.c l)(R:At C_Port w H g.b.b.d m)(t0:At C_Wire w H g.b.c A)(u0:At C_place w H g.c B)(v0:At C_Link w H g.d C)(w0:At cJ w H g.f D)(x0:At Ny w H g.g E)(y0:At cJ w H g.h F):
 Calls prog 29 [.p G,.agg #[.i j.c,.i j.d,.i j.f,.i j.b]].toArray w (Fu fun S T=>S= .tuple #[.i r.1,.i r.2]∧AU w T):=by
 have:=BO.lt b;unfold SP at hF;refine AE func29 z ntmps29 (Rc 2 (Ef z (AS z z) ?_));rintro _ _ ⟨_,rfl,_,_,s,c⟩;have D0:=s.size;have b:=b.ext s;have⟨_,U,hF⟩:=AO hF;have⟨o,V,hF⟩:=AO hF;refine Ro 5 ?_;refine Du 20 Tryz.hm fun J K a=>?_;have⟨t,_⟩:=Et s K;have⟨b,c⟩:=Di b c K;refine Fw a [0] (Br 1 a z (Bj z z) (Br 2 a z (CK z Ky) (Br 3 a z (CK z HG) (Br 4 a z (CK z Ej) (Br 5 a z (Ea z HJ b z) (Fw a [6] (Br 7 a z (Bj z z) (Br 8 a z (CK z Ky) (Br 9 a z (CK z DR) (Br 10 a z (CK z Dz) (Br 11 a z (Ea z GR b z) (Br 12 a z (CK z Nk) (Br 13 a z (Ea z AR c z) ?_)))))))))))));refine HT 14 a z (JB z Gg Dj (I.oj t) U) ?_;rintro _ ⟨_,_,_,rfl,_,W,X⟩;obtain⟨_,rfl,_⟩:=Bz W;refine Br 15 a z (CK z FC) (Br 16 a z (GB 1 z AR X z z) (HT 17 a z (JB z JH By (P.oj t) V) ?_));rintro _ ⟨_,_,_,rfl,_,Y,Z⟩;obtain⟨a0,b0,c0,rfl,e,d,f⟩:=DU Y;refine Br 18 a z (FT (us:=[.string o.f,.i o.b,a0,b0,c0,.i o.h,.i o.i]) z Db Z By) (LK 19 z (AZ z HM) ?_);rintro _ d0 ⟨_,rfl,_,_,u,h⟩;have e0:AU J d0:=AU.trans (AU.refl J) u;have⟨f0,_⟩:=Et t u;have⟨b,c,e,d,f⟩:=Gw b c e d f u;refine⟨e0,?_⟩;refine JN z (Ef z (DQ z h By (AB z (AB z (AB (AF.one e) (AB (AF.one d) (AB (AF.one f) (AB z (AB z BC))))))) z) ?_);rintro _ _ ⟨L,h⟩;have⟨h0,_⟩:=Eu f0 L;have⟨b,c,e,d,f⟩:=NL b c e d f L;refine TL.noPan (l:=[]) (Re 3 (Fl Da Fm h (Fl PO AR c (Ix hF d EB Ct ?_))));rintro p _ hF _ ⟨_,_,_,rfl,_,i0,j0⟩;obtain⟨k0,l0,rfl,v,x⟩:=Cx i0;refine Yl z (FT (us:=[.i p.b,.i p.d,.i p.c,.i p.g,k0,l0]) z Gv j0 Ct) (Ef z (AZ z HU) ?_);rintro _ _ ⟨_,rfl,_,_,M,i⟩;have⟨m0,_⟩:=Et h0 M;have⟨b,c,h,e,d,f,v,x⟩:=GT b c h e d f v x M;refine Ef z (DQ z i Ct (AB z (AB z (AB z (AB z (AB (AF.one v) (AB (AF.one x) BC)))))) z) ?_;rintro _ _ ⟨N,i⟩;have⟨q,_⟩:=Eu m0 N;have⟨b,c,h,e,d,f⟩:=Ve b c h e d f N;refine Ro 3 (DH Tryz.hm (Qr 1 (Qy z (Bj z z) (Qy z (CK z Ky) (Qy z (CK z DR) (Qy z (FT (us:=[k,l,m]) z FB (Ab.sub (BO.cells b) 1 3:Ab _ _ _ [k,l,m]) EZ) (Fq Nk AR c ?_)))))));have⟨_,o0,hF⟩:=AO hF;refine Ql z (MT z uH fun w' hw'=>(xI o0 (Ar (by omega) (hw').size) (I.oh hH (AU.trans q hw')) (Q.oh hH (AU.trans q hw')) (R.oh hH (AU.trans q hw')):)) ?_;refine Qr 1 ?_;refine QL.done fun j1 O=>?_;have⟨p0,_⟩:=Et q O;have⟨c,h,i,e,d,f⟩:=JQ c h i e d f O;refine Re 2 (DH Tryz.hm (Qr 1 (Fq GV AR i (Qr 2 (Fq Tp AR c (Qr 2 (Fq GJ AR i (Qr 2 (Qy z (Ci z Db h By) ?_)))))))));have⟨_,q0,hF⟩:=AO hF;refine Ql z (MT z uL fun w' hw'=>(zA q0 (Ar (by omega) (hw').size) (e.old hw' (by omega)) (d.old hw' (by omega)) (f.old hw' (by omega)):)) ?_;refine Qr 3 ?_;refine QL.done fun m1 r0=>?_;have⟨s0,_⟩:=Et p0 r0;exact UO hF s0
def YK(n:Nat)(a0:List BI):Option Int:=some ((a0.length:Int))
theorem AaR{a:List BI}{b:Int}{c:Value}(d:YK n a=some b)(g:H<=w.heap.size)(f:At C_Instance w H a c):
 Calls prog 67 [c].toArray w (Cf (.i b) w):=by
 have e:=AU.refl w;unfold YK at d;exact AE func67 z ntmps67 (Rc 8 (Yl z (HK z Gg (f.oj e)) (GQ d e)))
def YY(n:Nat)(a0:List CJ):Option Int:=some ((a0.length:Int))
theorem vP{a:List CJ}{b:Int}{c:Value}(d:YY n a=some b)(g:H<=w.heap.size)(f:At C_Arc w H a c):
 Calls prog 68 [c].toArray w (Cf (.i b) w):=by
 have e:=AU.refl w;unfold YY at d;exact AE func68 z ntmps68 (Rc 8 (Yl z (HK z EB (f.oj e)) (GQ d e)))
def RU(n:Nat)(a0:AJ)(a1:Int)(a2:Int):Option (CJ×Bool):=(YK n a0.b.b).bind fun d=>(Ld n a1 0 (wrap .i64 (d-1))).bind fun f=>cond (!f) (some ((CJ.mk 0 0 0 0 (([]:List Bm)) (([]:List Bm))),false)) ((AL a0.b.b a1).bind fun j=>(AL a0.d.b j.b).bind fun a=>(YY n a.c).bind fun e=>(Ld n a2 0 (wrap .i64 (e-1))).bind fun c=>(cond (!c) (some true) ((AL a.c a2).bind fun g=>(TR n g.b).bind fun h=>some (!h))).bind fun i=>cond i (some ((CJ.mk 0 0 0 0 (([]:List Bm)) (([]:List Bm))),false)) ((AL a.c a2).bind fun b=>some (b,true)))
theorem oU{g:AJ}{o p:Int}{e:CJ×Bool}{q r s t u:Value}(a:RU n g o p=some e)(hH:H<=w.heap.size)(O:At C_Cell w H g.d.b q)(v:At C_Instance w H g.b.b r)(m0:At Bc w H g.b.c s)(n0:At C_Port w H g.b.d t)(o0:At C_Wire w H g.c u):
 Calls prog 34 [.agg #[q,r,s,t,u],.i o,.i p].toArray w (Fu fun P k=>∃x y,P= .tuple #[.agg #[.i e.1.b,.i e.1.d,.i e.1.c,.i e.1.g,x,y],.bool e.2]∧At C_Table k H e.1.h x∧At C_Table k H e.1.f y∧AU w k):=by
 unfold RU at a;refine AE func34 z ntmps34 (Rc 2 (Ef z (AS z z) ?_));rintro _ _ ⟨_,rfl,_,_,A,d⟩;have t0:=A.size;refine Ef z (AZ z HU) ?_;rintro _ _ ⟨l,rfl,_,_,B,b⟩;have⟨C,_⟩:=Et A B;have d:=d.ext B;refine Ro 7 (Yl z (CK z DR) (Yl z (CK z Dz) (Yl z (Ea z GR d z) ?_)));refine Cs a C sF (fun _ m=>(AaR m (by omega) (v.oj C):)) ?_;rintro _ a _ Q ⟨R,_⟩;have⟨d,b⟩:=Di d b Q;refine Ro 1 (Cs a R IS (fun _=>Tu) ?_);rintro _ a _ S ⟨h,_⟩;have⟨d,b⟩:=Di d b S;refine Ro 3 (Wc z a ?_ ?_)
 ·intro a;refine Rc 2 (Yl z (Bt (uss:=[]) (out:=[.i 0,.i 0,.i 0,.i 0,.slice none 0 0,.slice none 0 0]) z z HU Sc z z) (Ef z (DQ z b Ct z z) ?_));rintro _ _ ⟨D,b⟩;have⟨U,_⟩:=Eu h D;have d:=d.upd D (by omega);cases CF a;exact Ro 5 (NX.end (rs:=[.cell 6 73,.tmp 7]) (vs:=[.agg #[.i 0,.i 0,.i 0,.i 0,.slice none 0 0,.slice none 0 0],.bool false]) z ⟨⟨l,z,Dd Gv Ct b⟩,z,trivial⟩ ⟨_,z,_,_,z,AF.nil _ _ _,AF.nil _ _ _,U⟩)
 ·intro a;refine Rc 3 (DH Tryz.hm (Qy z (CK z HG) (Qy z (CK z Ej) (Qy z (Ea z HJ d z) (Qy z (CK z DR) (Qy z (CK z Dz) (Qy z (Ea z GR d z) (Qr 1 (Iq a (v.oj h) Gg Dj ?_)))))))));rintro _ _ a _ ⟨_,_,_,rfl,_,V,W⟩;obtain⟨_,rfl,_⟩:=Bz V;refine JC FC AR W (Iq a (O.oj h) JH By ?_);rintro _ _ a _ ⟨_,_,_,rfl,_,X,Y⟩;obtain⟨_,_,_,rfl,_,c,_⟩:=DU X;refine JC Da Fm Y (Qr 1 ?_);refine QL.done fun Z0 E=>?_;have⟨Z,_⟩:=Et h E;have⟨b,c⟩:=Di b c E;refine Re 6 ?_;refine Cs a Z qR (fun _ m=>(vP m (by omega) c:)) ?_;rintro _ a _ a0 ⟨b0,_⟩;have⟨b,c⟩:=Di b c a0;refine Ro 1 (Cs a b0 IS (fun _=>Tu) ?_);rintro _ a _ c0 ⟨F,_⟩;have⟨b,c⟩:=Di b c c0;refine Ro 2 (PI 8 [2,6,8] 45 37 a ?_ ?_)
  ·intro d0 a;refine Ro 2 (Ix a c EB Ct ?_);rintro _ _ a _ ⟨_,_,_,rfl,_,e0,f0⟩;obtain⟨_,_,rfl,_,_⟩:=Cx e0;refine Fc EX AR f0 ?_;refine Cs a F Ys (fun _=>mI) ?_;rintro _ a _ G ⟨_,_⟩;have⟨b,c⟩:=Di b c G;cases CF a;exact Ro 1 (Ro 1 (Gj G))
  intro d0 a;intro v1 I;have⟨J,_⟩:=Et F I;have⟨b,c⟩:=Di b c I;refine Ro 2 (Wc z a ?_ ?_)
  ·intro a;refine Rc 2 (Yl z (Bt (uss:=[]) (out:=[.i 0,.i 0,.i 0,.i 0,.slice none 0 0,.slice none 0 0]) z z HU Sc z z) (Ef z (DQ z b Ct z z) ?_));rintro _ _ ⟨K,b⟩;have⟨h0,_⟩:=Eu J K;have c:=c.upd K (by omega);cases CF a;exact Ro 5 (NX.end (rs:=[.cell 6 73,.tmp 7]) (vs:=[.agg #[.i 0,.i 0,.i 0,.i 0,.slice none 0 0,.slice none 0 0],.bool false]) z ⟨⟨l,z,Dd Gv Ct b⟩,z,trivial⟩ ⟨_,z,_,_,z,AF.nil _ _ _,AF.nil _ _ _,h0⟩)
  ·intro a;refine Rc 6 (Ix a c EB Ct ?_);rintro f _ a _ ⟨_,_,_,rfl,_,i0,j0⟩;obtain⟨L,M,rfl,i,j⟩:=Cx i0;refine Yl z (FT (us:=[.i f.b,.i f.d,.i f.c,.i f.g,L,M]) z Gv j0 Ct) (Ef z (DQ z b Ct (AB z (AB z (AB z (AB z (AB (AF.one i) (AB (AF.one j) BC)))))) z) ?_);rintro _ _ ⟨N,b⟩;have⟨l0,_⟩:=Eu J N;have⟨i,j⟩:=PH i j N;cases CF a;exact Ro 4 (NX.end (rs:=[.cell 6 73,.tmp 7]) (vs:=[.agg #[.i f.b,.i f.d,.i f.c,.i f.g,L,M],.bool true]) z ⟨⟨l,z,Dd Gv Ct b⟩,z,trivial⟩ ⟨_,z,_,_,z,i,j,l0⟩)
def Un(n:Nat)(a0:List Int)(a1:Int):Option ((List Dn)×Int):=(AL a0 0).bind fun g=>(AL a0 (wrap .i64 (((a0.length:Int))-1))).bind fun b=>(XN n a0 (min (max a1 g) b)).bind fun a=>cond a.2 (some ([(Dn.mk a.1 1)],1)) ((AL a0 a.1).bind fun c=>(AL a0 (wrap .i64 (a.1-1))).bind fun d=>(AL a0 a.1).bind fun f=>(AL a0 (wrap .i64 (a.1-1))).bind fun e=>some ([(Dn.mk (wrap .i64 (a.1-1)) (wrap .i64 (c-(min (max a1 g) b)))),(Dn.mk a.1 (wrap .i64 ((min (max a1 g) b)-d)))],wrap .i64 (f-e)))
theorem qC{m:List Int}{c:Int}{h:(List Dn)×Int}{o:Value}(hF:Un n m c=some h)(hH:H<=w.heap.size)(d:At cJ w H m o):
 Calls prog 105 [o,.i c].toArray w (Fu fun x p=>∃q,x= .tuple #[q,.i h.2]∧AC C_weight p w.heap.size (Iv 0 0) 186 h.1 q∧AU w p):=by
 have i:=AU.refl w;unfold Un at hF;refine AE func105 z ntmps105 (Rc 7 (DH Tryz.hm (Qr 2 (Qz hF (d.oj i) Ak Bb AR ?_))));rintro e hF _;refine Qy z (Hc z z z) (Qr 2 (Qy z (HK z Ak (d.oj i)) (Qr 1 (Qz hF (d.oj i) Ak Bb AR ?_))));rintro f hF _;refine Qy z (GW z z z) (Qr 1 ?_);refine QL.done fun S j=>?_;have T:=j.size;refine Re 5 ?_;refine Cg hF mT (fun _ y=>(zF y (by omega) (d.oj j):)) ?_;rintro b hF _ _ ⟨rfl,A⟩;have⟨r,_⟩:=Et j A;refine Ro 13 (Wc z hF ?_ ?_)
 ·intro hF;refine Rc 3 (Yl z (DS [.i b.1,.i 1] z z Rn VS z) (Ef z (Aq C_weight ([(Dn.mk b.1 1)]) [[.i b.1,.i 1]] z Sh Yp z z ⟨NW,trivial⟩) ?_));rintro _ _ ⟨_,s,_,_,B,C⟩;have⟨D,_⟩:=Et r B;have c0:=BK s;clear s;cases CF hF;exact Ro 6 (Ne z z ⟨_,z,_,z,AC.base C,D⟩)
 ·intro hF;have⟨k,E,hF⟩:=AO hF;have⟨l,F,hF⟩:=AO hF;have⟨_,G,hF⟩:=AO hF;have⟨_,I,hF⟩:=AO hF;refine Rc 3 ?_;refine Du 30 Tryz.hm fun t J a=>?_;have⟨g,_⟩:=Et r J;refine Fw a [0,1,2,3] (HT 4 a z (JB z Ak Bb (d.oj g) E) ?_);rintro _ ⟨_,_,_,rfl,_,rfl,K⟩;refine Br 5 a z (GB 0 z AR K z z) (Fw a [6,7] (Br 8 a z (DS [.i (wrap .i64 (b.1-1)),.i (wrap .i64 (k-(min (max c e) f)))] z z Rn VS z) (Fw a [9,10,11,12,13] (HT 14 a z (JB z Ak Bb (d.oj g) F) ?_))));rintro _ ⟨_,_,_,rfl,_,rfl,L⟩;refine Br 15 a z (GB 0 z AR L z z) (Fw a [16] (Br 17 a z (DS [.i b.1,.i (wrap .i64 ((min (max c e) f)-l))] z z Rn VS z) (Fw a [19,20] (HT 21 a z (JB z Ak Bb (d.oj g) G) ?_))));rintro _ ⟨_,_,_,rfl,_,rfl,M⟩;refine Br 22 a z (GB 0 z AR M z z) (Fw a [23,24,25] (HT 26 a z (JB z Ak Bb (d.oj g) I) ?_));rintro _ ⟨_,_,_,rfl,_,rfl,N⟩;refine Br 27 a z (GB 0 z AR N z z) (Fw a [28] (LK 18 z (Aq C_weight ([(Dn.mk (wrap .i64 (b.1-1)) (wrap .i64 (k-(min (max c e) f)))),(Dn.mk b.1 (wrap .i64 ((min (max c e) f)-l)))]) [[.i (wrap .i64 (b.1-1)),.i (wrap .i64 (k-(min (max c e) f)))],[.i b.1,.i (wrap .i64 ((min (max c e) f)-l))]] z Sh Yp z z ⟨NW,NW,trivial⟩) ?_));rintro _ O ⟨_,u,_,_,v,P⟩;have Q:AU t O:=AU.trans (AU.refl t) v;have⟨R,_⟩:=Et g v;have x0:=BK u;clear u;refine⟨Q,?_⟩;refine Fw a [29] (JN z (Tr 1 (TL.noPan (l:=[]) (Re 2 ?_))));cases CF hF;exact Ne z z ⟨_,z,_,z,AC.base P,R⟩
def Xh(n:Nat)(a0:Int)(a1:Int)(a2:Int):Option Int:=cond (a1==0) none (cond (a1==0) none (cond (((a2==0))&&(decide (Int.tmod a0 a1<0))) (some (wrap .i64 ((wrap .i64 (Int.tdiv a0 a1))-1))) (cond (((a2==1))&&(decide (Int.tmod a0 a1>0))) (some (wrap .i64 ((wrap .i64 (Int.tdiv a0 a1))+1))) (some (wrap .i64 (Int.tdiv a0 a1))))))
theorem AaB{c d e f:Int}(a:Xh n c d e=some f):
 Calls prog 106 [.i c,.i d,.i e].toArray w (Cf (.i f) w):=by
 unfold Xh at a;refine AE func106 z ntmps106 (Rc 6 (DH Tryz.hm (Qr 2 ?_)));have⟨g,a⟩:=OI a;refine Qy z (TU z z z g) (Qr 2 ?_);have⟨h,a⟩:=OI a;refine Qy z (MC z z z h) (Qr 2 ?_);refine QL.done fun i b=>?_;have H:=b.size;refine Re 8 (Zg 3 [2,7,8] 21 18 ?_);refine Ro 3 (Wt a b ?_);intro a;refine Rc 5 (Zg 3 [7] 30 27 ?_);refine Ro 3 (Wt a b ?_);intro a;exact Xn a b
def Ml(a0:Bm)(r23:(List Dn)×Int)(x41:Dn)(k2:Int->Int->Option Int):Nat->Int->Int->Option Int
 |0,_,_=>none
 |m+1,b,a=>cond (decide (a<(r23.1.length:Int))) ((AL r23.1 a).bind fun c=>(AL a0.b (wrap .i64 ((wrap .i64 (x41.c*((a0.c.length:Int))))+c.c))).bind fun d=>Ml a0 r23 x41 k2 m (wrap .i64 (b+(wrap .i64 ((wrap .i64 (d*x41.b))*c.b)))) (wrap .i64 (a+1))) (k2 b a)
def NP(n:Nat)(a0:Bm)(r13:(List Dn)×Int)(r23:(List Dn)×Int)(k0:Int->Int->Option Int):Nat->Int->Int->Option Int
 |0,_,_=>none
 |m+1,b,a=>cond (decide (a<(r13.1.length:Int))) ((AL r13.1 a).bind fun c=>Ml a0 r23 c (fun d e=>NP n a0 r13 r23 k0 m d (wrap .i64 (a+1))) n b 0) (k0 b a)
def tR(n:Nat)(a0:Bm)(a1:Int)(a2:Int)(a3:Int):Option Int:=(Un n a0.d a1).bind fun a=>(Un n a0.c a2).bind fun b=>NP n a0 a b (fun d e=>(Xh n d (wrap .i64 (a.2*b.2)) a3).bind fun c=>some c) n 0 0
theorem W_y{g:Bm}{I J o p:Int}{K L M:Value}(a:tR n g I J o=some p)(hH:H<=w.heap.size)(V:At cJ w H g.d K)(N:At cJ w H g.c L)(W:At cJ w H g.b M):
 Calls prog 73 [.agg #[K,L,M],.i I,.i J,.i o].toArray w (Cf (.i p) w):=by
 unfold tR at a;refine AE func73 z ntmps73 (Rc 2 (Ef z (AS z z) ?_));rintro _ _ ⟨O,rfl,_,_,v,b⟩;have v0:=v.size;refine Ro 5 (Fl LG Bn b (Ro 1 ?_));refine Cg a YU (fun _ x=>(qC x (by omega) (V.oj v):)) ?_;rintro h a _ _ ⟨P,rfl,f,Q⟩;have⟨R,_⟩:=Et v Q;have b:=b.ext Q;have y0:=AC.blk f;refine Ro 9 (Fl Ir Bn b (Ro 1 ?_));refine Cg a YU (fun _ x=>(qC x (by omega) (N.oj R):)) ?_;rintro i a _ X ⟨y,rfl,c,S⟩;have⟨Y,_⟩:=Et R S;have⟨b,f⟩:=Di b f S;have Z:=AC.blk c;refine Ro 16 (Yl z (Hm z Sh f) (Ro 4 ?_));have⟨a0,b0,a⟩:=MW a;refine WC.loopD (fun j e wl=>∃q k:Int,Kn 73 [(3,.i o),(4,.p O),(10,.i h.2),(11,y),(12,.i i.2),(13,.i q),(32,P),(33,.i ((h.1.length:Int))),(34,.i k)] e∧AU X wl∧NP n g h i a0 j q k=some p) n ?_ ?_
 ·intro e hK;exact⟨0,0,hK.sub z,AU.refl _,a⟩
 ·rintro j e _ ⟨q,k,hK,A,a⟩;refine EK hK ?_;rcases j with _|j;exact EI a;rw [NP.eq_2]at a;have⟨T,_⟩:=Et Y A;have⟨b,f,c⟩:=FE b f c A;refine Rc 6 (Wc z a ?_ ?_)
  ·intro a;refine Rc 6 (Io a f Sh QF ?_);rintro r _ a _ ⟨_,_,rfl,_,c0,d0⟩;obtain rfl:=OH c0;refine Yl z (FT (us:=[.i r.c,.i r.b]) z Zu d0 QF) (Ef z (AZ z Rn) ?_);rintro _ _ ⟨e0,rfl,_,_,B,d⟩;have⟨f0,_⟩:=Et T B;have⟨b,c⟩:=Di b c B;refine Ef z (DQ z d QF z z) ?_;rintro _ g0 ⟨C,d⟩;have⟨i0,_⟩:=Eu f0 C;have⟨b,c⟩:=PH b (Am c Z) C;refine Ro 5 (Yl z (Hm z Sh c) (Ro 4 ?_));have⟨j0,k0,a⟩:=MW a;refine WC.loopD (fun l e wl=>∃m s:Int,Kn 73 [(3,.i o),(4,.p O),(10,.i h.2),(11,y),(12,.i i.2),(13,.i m),(15,.p e0),(32,P),(33,.i ((h.1.length:Int))),(34,.i k),(38,y),(39,.i ((i.1.length:Int))),(40,.i s)] e∧AU g0 wl∧Ml g i r j0 l m s=some p) n ?_ ?_
   ·intro e hK;exact⟨q,0,hK.sub z,AU.refl _,a⟩
   ·rintro l e _ ⟨m,s,hK,t,a⟩;refine EK hK ?_;rcases l with _|l;exact EI a;rw [Ml.eq_2]at a;have⟨l0,_⟩:=Et i0 t;have⟨d,b,c⟩:=FE d b c t;refine Rc 6 (Wc z a ?_ ?_)
    ·intro a;refine Rc 6 (Io a c Sh QF ?_);rintro D _ a _ ⟨_,_,rfl,_,m0,n0⟩;obtain rfl:=OH m0;refine Yl z (FT (us:=[.i D.c,.i D.b]) z Zu n0 QF) (Ef z (AZ z Rn) ?_);rintro _ _ ⟨_,rfl,_,_,E,u⟩;have⟨o0,_⟩:=Et l0 E;have⟨d,b⟩:=Di d b E;refine Ef z (DQ z u QF z z) ?_;rintro _ _ ⟨F,u⟩;have⟨G,_⟩:=Eu o0 F;have⟨d,b⟩:=PH d b F;refine Ro 2 (DH Tryz.hm (Qr 1 (Fq Gc Bn b (Fq Uy Uj d (Tq Ir Bn b Ak (N.oj G) (Qr 1 (Fq Uy Uj u (Qr 1 (Qz a (W.oj G) Ak Bb AR ?_)))))))));rintro q0 a _;refine Fq Uc AR d (Qr 1 (Fq Uc AR u (Qr 3 ?_)));refine QL.done fun Y0 U=>?_;have⟨_,_⟩:=Et G U;refine Re 7 ?_;intro e hK;exact⟨l,nr,(wrap .i64 (m+(wrap .i64 ((wrap .i64 (q0*r.b))*D.b)))),(wrap .i64 (s+1)),hK.sub z,(AU.trans (Eu (AU.trans t E) F).1 U),a⟩
    ·intro a;refine Rc 3 ?_
     subst k0
     refine Re 8 ?_;intro e hK;exact⟨j,nr,m,(wrap .i64 (k+1)),hK.sub z,(AU.trans (Eu (AU.trans A B) C).1 t),a⟩
  ·intro a;refine Rc 3 ?_
   subst b0
   refine Re 9 ?_;refine Cs a T jQ (fun _=>AaB) ?_;rintro _ a _ _ ⟨r0,_⟩;exact GQ a r0
def QO(n:Nat)(a0:Cu)(a1:Au)(a2:BS)(a3:BP):Option (Int×Bool):=(SP n a0 a3).bind fun a=>(AL a1.c a.1).bind fun l=>(cond (!l) (some true) ((AL a1.c a.2).bind fun k=>some (!k))).bind fun o=>cond o (some (0,false)) ((RU n a0.b a3.c a3.d).bind fun e=>(AL e.1.h a3.f).bind fun c=>(AL a1.f a.1).bind fun i=>(AL a1.f a.2).bind fun h=>(tR n c i.b h.b 1).bind fun b=>cond (e.1.b==4) ((AL a1.b a.2).bind fun g=>(AL a1.b a.1).bind fun f=>some (wrap .i64 ((wrap .i64 ((wrap .i64 ((wrap .i64 (a2.c+g.c))-b))-a2.b))-f.b),true)) ((AL a1.b a.1).bind fun j=>(AL a1.b a.2).bind fun d=>some (wrap .i64 (j.c-(wrap .i64 ((wrap .i64 ((wrap .i64 (a2.d+d.b))+b))+a2.b))),true)))
theorem AbJ{e:Cu}{m:Au}{o:BS}{l:BP}{x:Int×Bool}{p q r s t G I J K L:Value}{M:Nat}{N O P:Value}(hF:QO n e m o l=some x)(hH:H<=w.heap.size)(d:BO w M [p,q,r,s,t,G,I,J,K,L] 102)(Q:At C_Cell w H e.b.d.b p)(R:At C_Instance w H e.b.b.b q)(S:At Bc w H e.b.b.c r)(T:At C_Port w H e.b.b.d s)(U:At C_Wire w H e.b.c t)(g0:At C_place w H e.c G)(h0:At C_Link w H e.d I)(i0:At cJ w H e.f J)(j0:At Ny w H e.g K)(k0:At cJ w H e.h L)(V:At CD w H m.c N)(u:At C_Span w H m.b O)(W:At C_Span w H m.f P):
 Calls prog 45 [.p M,.agg #[N,O,P],.agg #[.i o.c,.i o.d,.i o.b],.agg #[.i l.c,.i l.d,.i l.f,.i l.b]].toArray w (Fu fun l0 m0=>l0= .tuple #[.i x.1,.bool x.2]∧AU w m0):=by
 have:=BO.lt d;unfold QO at hF;refine AE func45 z ntmps45 (Rc 2 (Ef z (AS z z) ?_));rintro _ _ ⟨_,rfl,_,_,y,a⟩;have a1:=y.size;have d:=d.ext y;refine Ef z (AS z z) ?_;rintro _ _ ⟨_,rfl,_,_,X,b⟩;have⟨n0,_⟩:=Et y X;have⟨d,a⟩:=Di d a X;refine Ef z (AS z z) ?_;rintro _ _ ⟨_,rfl,_,_,Y,c⟩;have⟨f,_⟩:=Et n0 Y;have⟨d,a,b⟩:=FE d a b Y;refine Ro 7 (Yl z (Ci z SD c Gk) ?_);refine Cg hF iX (fun _ o0=>(rI o0 (by omega) d (Q.oj f) (R.oj f) (S.oj f) (T.oj f) (U.oj f) (g0.oj f) (h0.oj f) (i0.oj f) (j0.oj f) (k0.oj f):)) ?_;rintro _ hF _ _ ⟨rfl,Z⟩;have⟨v,_⟩:=Et f Z;have⟨d,a,b,c⟩:=Gp d a b c Z;refine Ro 10 (Fl Gm JZ a (Ro 1 (Il hF (V.oj v) GE Gl Gi ?_)));rintro _ hF _;refine Ro 2 (OD 7 [0,5,6,7,10,11] 34 27 hF ?_ ?_)
 ·intro p0 hF;refine Fl Gm JZ a (Ro 1 (Il hF (V.oj v) GE Gl Gi ?_));rintro _ hF _;cases CF hF;exact Ro 1 (Ro 1 (Fk))
 intro p0 hF;refine Ro 2 (Wt hF v ?_);intro hF;have⟨_,q0,hF⟩:=AO hF;refine Rc 3 ?_;refine Du 14 Tryz.hm fun a0 b0 g=>?_;have⟨r0,_⟩:=Et v b0;have⟨d,a,b,c⟩:=Gp d a b c b0;refine Fw g [0] (Br 1 g z (Bj z z) (Br 2 g z (CK z Ky) (Br 3 g z (FT (us:=[p,q,r,s,t]) z CR (Ab.sub (BO.cells d) 0 5:Ab _ _ _ [p,q,r,s,t]) Bv) (Br 4 g z (CK z Nk) (Br 5 g z (Ea z AR c z) (Br 6 g z (CK z PO) (Br 7 g z (Ea z AR c z) ?_)))))));refine dP 12 z z HU fun _ _ _ _ _ _=>?_;refine Sq 8 z (by kernel_rfl) ?_;rintro c0 A;have⟨h,_⟩:=Et r0 A;have⟨a,b,c⟩:=FE a b c A;refine⟨_,(GO z iJ (oU q0 (by omega) (Q.oj h) (R.oj h) (S.oj h) (T.oj h) (U.oj h):)),?_⟩;rintro _ s0 ⟨_,_,rfl,i,B,C⟩;have d0:AU c0 s0:=AU.trans (AU.refl c0) C;have⟨t0,_⟩:=Et h C;have⟨a,b,c⟩:=FE a b c C;refine⟨d0,?_⟩;refine TV 9 g z (by kernel_rfl) (Kp z z) (TV 10 g z (by kernel_rfl) (FP z z z) (TV 11 g z (by kernel_rfl) (FP z z z) (Tc (by kernel_rfl) ?_)));rintro _ _ D _ j ⟨_,_⟩;have⟨u0,_⟩:=Et t0 D;have⟨a,b,c,i,B⟩:=Gw a b c i B D;refine LK 13 z (DQ z j Ct (AB z (AB z (AB z (AB z (AB (AF.one i) (AB (AF.one B) BC)))))) z) ?_;rintro _ v0 ⟨E,j⟩;have x0:AU a0 v0:=Below.trans (AU.trans (AU.trans (AU.trans (AU.refl a0) A) d0) D) (JM.below E (by omega));have⟨F,_⟩:=Eu u0 E;have⟨a,b,c,i⟩:=Jq a b c i E;refine⟨x0,?_⟩;refine JN z (Tr 1 (TL.noPan (l:=[]) (Re 2 (DH Tryz.hm (Fq KK KP j (Fq Tp AR c (Iq hF i Qk HE ?_)))))));rintro _ _ hF _ ⟨_,_,_,rfl,_,y0,z0⟩;obtain⟨A0,B0,C0,rfl,D0,E0,F0⟩:=HS y0;refine Qy z (FT (us:=[A0,B0,C0]) z Kl z0 HE) (Fq GU El a (Qr 1 (Iq hF (W.oj F) GZ CU ?_)));rintro _ _ hF _ ⟨_,_,_,rfl,_,G0,H0⟩;obtain rfl:=Bp G0;refine JC Cr AR H0 (Fq GU El a (Qr 1 (Iq hF (W.oj F) GZ CU ?_)));rintro _ _ hF _ ⟨_,_,_,rfl,_,I0,J0⟩;obtain rfl:=Bp I0;refine JC Cr AR J0 ?_;have⟨_,K0,hF⟩:=AO hF;refine Ql z (MT z qG fun w' hw'=>(W_y K0 (Ar (by omega) (hw').size) (D0.old hw' (by omega)) (E0.old hw' (by omega)) (F0.old hw' (by omega)):)) ?_;refine Qr 1 ?_;refine QL.done fun V1 e0=>?_;have⟨k,_⟩:=Et F e0;have⟨a,b,j⟩:=FE a b j e0;refine Re 4 (Fl EX AR j (Ro 3 (Wc z hF ?_ ?_)))
 ·intro hF;refine Rc 1 (DH Tryz.hm (Fq Ps AR b (Fq EY El a (Qr 1 (Iq hF (u.oj k) GZ CU ?_)))));rintro _ _ hF _ ⟨_,_,_,rfl,_,L0,M0⟩;obtain rfl:=Bp L0;refine JC Cz AR M0 (Qr 3 (Fq MH AR b (Qr 1 (Fq EY El a (Qr 1 (Iq hF (u.oj k) GZ CU ?_))))));rintro _ _ hF _ ⟨_,_,_,rfl,_,N0,O0⟩;obtain rfl:=Bp N0;refine JC Cr AR O0 (Qr 3 ?_);refine QL.done fun j2 f0=>?_;have⟨P0,_⟩:=Et k f0;have⟨a,b⟩:=Di a b f0;exact UO hF P0
 ·intro hF;refine Rc 3 (DH Tryz.hm (Fq EY El a (Qr 1 (Iq hF (u.oj k) GZ CU ?_))));rintro _ _ hF _ ⟨_,_,_,rfl,_,Q0,R0⟩;obtain rfl:=Bp Q0;refine JC Cz AR R0 (Fq Pg AR b (Fq EY El a (Qr 1 (Iq hF (u.oj k) GZ CU ?_))));rintro _ _ hF _ ⟨_,_,_,rfl,_,S0,T0⟩;obtain rfl:=Bp S0;refine JC Cr AR T0 (Qr 3 (Fq MH AR b (Qr 4 ?_)));refine QL.done fun x2 U0=>?_;have⟨V0,_⟩:=Et k U0;exact UO hF V0
def Hj(n:Nat)(a0:Cu)(a1:Au)(a2:BS)(r41:List BP)(k0:(List BP)->Int->Option (List BP)):Nat->(List BP)->Int->Option (List BP)
 |0,_,_=>none
 |m+1,c,a=>cond (decide (a<(r41.length:Int))) ((AL r41 a).bind fun b=>(QO n a0 a1 a2 b).bind fun e=>cond e.2 ((De c ([(BP.mk b.c b.d b.f e.1)]) 32).bind fun d=>Hj n a0 a1 a2 r41 k0 m d (wrap .i64 (a+1))) (Hj n a0 a1 a2 r41 k0 m c (wrap .i64 (a+1)))) (k0 c a)
def UT(n:Nat)(a0:Cu)(a1:Au)(a2:BS):Option (List BP):=(sI n a0.b).bind fun b=>Hj n a0 a1 a2 b (fun a c=>some a) n (([]:List BP)) 0
theorem sR{h:Cu}{v:Au}{m:BS}{M:List BP}{x y A B C N O P Q R:Value}{q:Nat}{S T U:Value}(a:UT n h v m=some M)(hH:H<=w.heap.size)(k:BO w q [x,y,A,B,C,N,O,P,Q,R] 102)(e0:At C_Cell w H h.b.d.b x)(f0:At C_Instance w H h.b.b.b y)(g0:At Bc w H h.b.b.c A)(h0:At C_Port w H h.b.b.d B)(i0:At C_Wire w H h.b.c C)(z0:At C_place w H h.c N)(A0:At C_Link w H h.d O)(B0:At cJ w H h.f P)(C0:At Ny w H h.g Q)(D0:At cJ w H h.h R)(E0:At CD w H v.c S)(F0:At C_Span w H v.b T)(G0:At C_Span w H v.f U):
 Calls prog 21 [.p q,.agg #[S,T,U],.agg #[.i m.c,.i m.d,.i m.b]].toArray w (Fu fun H0 j0=>∃k0,H0=k0∧AC C_Check j0 w.heap.size (Iv 0 0) 56 M k0∧AU w j0):=by
 have:=BO.lt k;unfold UT at a;refine AE func21 z ntmps21 (Rc 2 (Ef z (AS z z) ?_));rintro _ _ ⟨J,rfl,_,_,V,D⟩;have f1:=V.size;have k:=k.ext V;refine Ef z (AS z z) ?_;rintro _ I0 ⟨K,rfl,_,_,l0,W⟩;have⟨r,_⟩:=Et V l0;have⟨k,D⟩:=Di k D l0;refine Ro 12 (Yl z (Bj z z) (Yl z (CK z Ky) (Yl z (FT (us:=[x,y,A,B,C]) z CR (Ab.sub (BO.cells k) 0 5:Ab _ _ _ [x,y,A,B,C]) Bv) ?_)));refine Cg a rL (fun _ X=>(W_x X (by omega) (e0.oj r) (f0.oj r) (g0.oj r) (h0.oj r) (i0.oj r):)) ?_;rintro Y a Z p ⟨_,rfl,a0,m0⟩;have⟨J0,_⟩:=Et r m0;have⟨k,D,W⟩:=FE k D W m0;have L:=AC.blk a0;refine Yl z (Hm z IG a0) (Ro 4 ?_);have K0:AC C_Check p (p.heap.size) (Iv 0 0) 56 [] (.slice none 0 0):=AC.nil _ _ _ _ _;have E:Bd (Value.slice none 0 0) p.heap.size p.heap.size:=Hp;refine WC.loopD (fun s F wl=>∃(t:List BP) (l:Value) (u:Int),Kn 39 [(0,.p q),(4,.p J),(5,.p K),(7,l),(16,Z),(17,.i ((Y.length:Int))),(18,.i u)] F∧AU w wl∧p.heap.size<=wl.heap.size∧BO wl q [x,y,A,B,C,N,O,P,Q,R] 102∧BO wl J [S,T,U] 38∧BO wl K [.i m.c,.i m.d,.i m.b] 40∧AC C_Check wl (p.heap.size) (Iv 0 0) 56 t l∧Bd l p.heap.size wl.heap.size∧AC C_Check wl (I0.heap.size) (Iv 0 0) 56 Y Z∧Nb l q∧Nb l J∧Nb l K∧No l Z∧Hj n h v m Y (fun t u=>(some t)) s t u=some M) n ?_ ?_
 ·intro F hK;exact⟨(([]:List BP)),((.slice none 0 0)),0,hK.sub z,J0,nr,k,D,W,K0,(fun G hg=>by have:=E G hg;omega),a0,(Nb.of E),(Nb.of E),(Nb.of E),(No.of E L),a⟩
 ·rintro s F _ ⟨t,l,u,hK,n0,_,b,c,d,g,I,e,b0,c0,d0,o0,a⟩;refine EK hK ?_;rcases s with _|s;exact EI a;rw [Hj.eq_2]at a;refine Rc 6 (Wc z a ?_ ?_)
  ·intro a;refine Rc 6 (Io a e IG Gk ?_);rintro i _ a _ ⟨_,_,rfl,_,L0,M0⟩;obtain rfl:=DY L0;refine Yl z (FT (us:=[.i i.c,.i i.d,.i i.f,.i i.b]) z SD M0 Gk) (Ef z (AZ z So) ?_);rintro _ _ ⟨_,rfl,_,_,p0,o⟩;have⟨N0,_⟩:=Et n0 p0;have⟨b,c,d,g,e⟩:=Gw b c d g e p0;refine Ef z (DQ z o Gk z z) ?_;rintro _ _ ⟨q0,o⟩;have⟨f,_⟩:=Eu N0 q0;have⟨b,c,d,g,e⟩:=NL b c d (Am g I) (Am e L) q0;refine Ro 5 (Yl z (Ci z Ep c DT) (Yl z (Ci z Ga d FL) (Yl z (Ci z SD o Gk) ?_)));refine Cg a tP (fun _ X=>(AbJ X (by omega) b (e0.oj f) (f0.oj f) (g0.oj f) (h0.oj f) (i0.oj f) (z0.oj f) (A0.oj f) (B0.oj f) (C0.oj f) (D0.oj f) (E0.oj f) (F0.oj f) (G0.oj f):)) ?_;rintro r0 a _ _ ⟨rfl,s0⟩;have⟨t0,_⟩:=Et f s0;have⟨b,c,d,o,g,e⟩:=JQ b c d o g e s0;refine Ro 12 (Wc z a ?_ ?_)
   ·intro a;refine Rc 3 (Yl z (CK z Hk) (Ef z (DQ z o Bb z z) ?_));rintro _ _ ⟨u0,o⟩;have⟨Q0,_⟩:=Eu t0 u0;have⟨b,c,d,g,e⟩:=NL b c d (Am g I) (Am e L) u0;refine Ro 4 (Yl z (Ci z SD o Gk) (Ef z (Aq C_Check ([(BP.mk i.c i.d i.f r0.1)]) [[.i i.c,.i i.d,.i i.f,.i r0.1]] z IG RD z z ⟨MK,trivial⟩) ?_));rintro _ _ ⟨_,v0,_,_,w0,R0⟩;have⟨S0,_⟩:=Et Q0 w0;have⟨b,c,d,g,e⟩:=Gw b c d g e w0;have H1:=BK v0;clear v0;have⟨T0,U0,a⟩:=AO a;refine Ef z (BA (c:=C_Check) z IG RD z z z z z g (by omega) (AC.slf R0 nr nr) U0) ?_;rintro V0 _ ⟨x0,j⟩;have⟨W0,_⟩:=Ge S0 j I;have X0:Nb _ q:=Gb j b0;have b:=Ah.box j b b0;have Y0:Nb _ J:=Gb j c0;have c:=Ah.box j c c0;have Z0:Nb _ K:=Gb j d0;have d:=Ah.box j d d0;have y0:=o0;have a1:=Gn j y0 L;have e:=Ah.ownF j e y0;have b1:=HZ j x0 I;refine Ro 9 ?_;intro F hK;exact⟨s,nr,T0,V0,(wrap .i64 (u+1)),hK.sub z,W0,(by omega),b,c,d,x0,(fun G hg=>by have:=b1 G hg;omega),e,X0,Y0,Z0,a1,a⟩
   ·intro a;refine Rc 8 ?_;intro F hK;exact⟨s,nr,t,l,(wrap .i64 (u+1)),hK.sub z,t0,(by omega),b,c,d,g,(fun G hg=>by have:=I G hg;omega),e,b0,c0,d0,o0,a⟩
  ·intro a;cases CF a;exact Rc 12 (Ne z z ⟨_,z,_,z,AC.base g,n0⟩)
def Wr(n:Nat)(a0:Aj)(a1:Int):Option Int:=(fV n a0.c a1).bind fun a=>some a
theorem tQ{a:Aj}{c d:Int}(b:Wr n a c=some d):
 Calls prog 31 [.agg #[.i a.c,.i a.b.c,.i a.b.b],.i c].toArray w (Cf (.i d) w):=by
 unfold Wr at b;refine AE func31 z ntmps31 (Rc 2 (Ef z (AS z z) ?_));rintro _ _ ⟨i,rfl,_,_,e,f⟩;have k:=e.size;refine Ro 5 (Fl MB AR f (Ro 1 ?_));refine Cs b e pL (fun _=>vT) ?_;rintro _ b _ _ ⟨g,_⟩;exact GQ b g
def kO(n:Nat)(a0:List Aj)(a1:Int)(a2:List Aj):Option (List Aj):=bK 24 a0 a1 a2
theorem AbM{n:Nat}{a0:List Aj}{a1:Int}{a2:List Aj}{v1:Value}{B2:Nat}{v3:Value}{lo4 hi5:Nat}{r:List Aj}{w:World}(hF:kO n a0 a1 a2=some r)(ha6:AC C_Target w B2 (Iv 0 0) 54 a0 v1)(hh7:B2<=w.heap.size)(ha8:AF C_Target w (Iv lo4 hi5) a2 v3)(hh9:hi5<=w.heap.size)(hh10:∀g,v1.ownBlock=some g->g<lo4∨hi5<=g)(hp:Ui w v3):
 Calls Tryz.prog 33 [v1, .int .i64 a1,v3].toArray w (Fu fun u w2=>∃v0_0,u=v0_0∧AC C_Target w2 B2 (Iv 0 0) 54 r v0_0∧Gr w v1 v0_0∧BH (pO v1) w w2):=by
 obtain⟨x,i,rfl,rfl,hi,hb1,hb2,rfl⟩:=XE hF
 refine AE Tryz.func33 rfl Tryz.ntmps33 ?_
 refine Rc 9 (Ye rfl (fB rfl Tryz.underlying43 GX rfl rfl ha6 (zs:=a0.drop i) (by simp [LQ,hi])) ?_)
 rintro u0-
 refine Ro 5 (Yl rfl (HK rfl Tryz.underlying43 ha8) (Ro 10 (WC.cond_f rfl ?_)))
 refine Rc 5 (Yl rfl (Hm rfl Tryz.underlying43 ha6) (Ro 11 (WC.cond rfl ?_ ?_)))
 ·intro ht
  have hil:i=a0.length:=by have:=CQ ht;omega
  subst hil
  refine Rc 4 (Ef rfl (BA (zs:=a0++[x]) rfl Tryz.underlying43 QR rfl rfl rfl rfl rfl ha6 hh7 ha8 (by simp [De];omega)) ?_)
  rintro v' w' ⟨h1,h2⟩
  have e1:a0.take a0.length++x::a0.drop a0.length=a0++[x]:=by simp
  rw [e1]
  exact Ro 5 (Ne rfl rfl ⟨_,rfl,v',rfl,h1,(Gr.refl w v1).grew (BN _) h2,(BH.refl _ w).grow h2 (fun g hg=> .inl hg)⟩)
 intro hf
 have hil:i<a0.length:=by have:=Fy hf;omega
 obtain⟨cs,⟨hcl,⟨rfl,hn⟩|⟨g,cap,cur,rfl,hBg,hh,h5,h6,h7,h8⟩⟩,h3⟩:=ha6
 ·omega
 have hR:RL C_Target w (Iv 0 0) a0 cs:=⟨hcl,h3⟩
 have hn3:C_Target.n=3:=rfl
 rw [hn3]at hcl h7 h8
 have h6':cap<=9223372036854775807:=h6
 have hgl:g<w.heap.size:=(CA.1 hh).1
 obtain⟨a,vc,rfl,⟨hv1, -⟩,hv2,hv3⟩:=ha8
 obtain⟨b,off,rfl,hbI,hv4⟩:=hv3 (by simp)
 obtain⟨us,hrep,hus⟩:=hv4 0 x rfl
 have hul:us.length=3:=C_Target.len hrep
 have hun:∀v∈us,v.oneCell'=true:=fun v hv=>CG.1 (C_Target.one hrep) v hv
 have hcn:=hR.one (by decide)
 have hgb:g≠b:=by have:=hh10 g rfl;have:=hbI.1;have:=hbI.2;omega
 have hbl:b<w.heap.size:=by have:=hbI.2;omega
 obtain⟨i1,hi1,hi2⟩:=Cy.1 QR
 obtain⟨z,hz1,hz2⟩:=Ag.1 hi2
 simp only [DI]at hz2
 obtain⟨ez,es,eb⟩:=hz2
 have hw1:IntKind.i64.wrap ((a0.length:Int)+(([x]:List Aj).length:Int))=((a0.length+1:Nat):Int):=by rw [IntKind.wrap_i64];simp;omega
 have hw2:IntKind.i64.wrap ((i:Int)+(([x]:List Aj).length:Int))=((i+1:Nat):Int):=by rw [IntKind.wrap_i64];simp;omega
 have hcw:∀(W:World),W.heap[g]? =some (.cells cur 54 (0,0))->∀(j:Nat) v,cs[j]? =some v->W.cell? ⟨g,j,none⟩=some v:=fun W hW j v hj=>by
  rw [←h8,Bq]at hj
  split at hj
  ·simpa [World.cell?,hW] using hj
  ·cases hj
 have hsrcv:∀(W:World),W.heap[b]? =w.heap[b]? ->∀j v,us[j]? =some v->W.cell? ((⟨b,off+0*C_Target.n,none⟩:Addr).add j)=some v:=fun W hW j v hj=>by
  have:=(hus.block hW) j v hj
  rw [Addr.add_lit];exact this.1
 refine Rc 9 (Yl rfl (gN rfl Tryz.underlying43 rfl) (Ro 3 (WC.cond rfl ?_ ?_)))
 ·intro ht
  have hroom:cap<a0.length+1:=by have:=CQ ht;rw [hw1]at this;omega
  have hkk:IntKind.i64.wrap (IntKind.i64.wrap ((a0.length:Int)+(([x]:List Aj).length:Int))-(i:Int))=((a0.length+1-i:Nat):Int):=by rw [hw1,IntKind.wrap_i64];omega
  have hik:i+(a0.length+1-i)=a0.length+1:=by omega
  have hzl:z.cells.size=3:=by rw [←EG,ez];rfl
  have hold:(Builtin.firstCells i1.size i (.slice (some ⟨g,0,none⟩) i cap)).run Tryz.prog w.drew= .ok (cs.take (i*3)).toArray w.drew:=by
   rw [es]
   refine run_firstCells_some w.drew 3 i ⟨g,0,none⟩ i cap (cs.take (i*3)) (by rw [DM];omega) (fun j v hj=>?_)
   rw [Addr.add_lit,Bu]
   rw [Bq]at hj
   split at hj
   ·exact hcw w hh j v hj
   ·cases hj
  have hrz:=fun ty=>Lib.run_append_grow_zeros w 43 3 ty 54 i1 z .i64 .i64 Tryz.underlying43 Tryz.underlying3 hi1 hz1 (some ⟨g,0,none⟩) i cap (cs.take (i*3)) hold (a0.length+1-i) (by omega) (by omega) (by omega) (by omega) (by rw [eb];omega) (by rw [eb,hik];exact growslice_fits hroom hb1)
  simp only [hik]at hrz
  obtain⟨G,hG⟩:∃G,G=grownCap w (a0.length+1) cap 54:=⟨_,rfl⟩
  have hGn:a0.length+1<=G:=by rw [hG];exact grownCap_ge w _ _ _
  have hGm:G<=maxLen:=by rw [hG];exact grownCap_le_maxLen w _ _ _ hb2
  obtain⟨Z,hZ⟩:∃Z:List Value,Z=(Builtin.zeroCells z.cells (a0.length+1-i)++Builtin.zeroCells z.cells (G-(a0.length+1))).toList:=⟨_,rfl⟩
  have hZl:Z.length=(a0.length+1-i)*3+(G-(a0.length+1))*3:=by rw [hZ];simp [Builtin.zeroCells,hzl]
  obtain⟨ROW,hROW⟩:∃ROW:Array Value,ROW=(cs.take (i*3)++Z).toArray:=⟨_,rfl⟩
  have hRs:ROW.size=G*3:=by rw [hROW];simp [hZl];omega
  have hrow:((cs.take (i*3)).toArray++Builtin.zeroCells z.cells (a0.length+1-i)++Builtin.zeroCells z.cells (G-(a0.length+1)))=ROW:=by rw [hROW,hZ];simp
  rw [←hG]at hrz
  rw [hrow]at hrz
  obtain⟨w1,hw⟩:∃w1,w1=w.drew.alloc (.cells ROW 54):=⟨_,rfl⟩
  rw [←hw]at hrz
  have X1:AU w w1:=by rw [hw];exact(AU.drew w).trans (AU.alloc _ _)
  have hq:w1.heap[w.heap.size]? =some (.cells ROW 54 (0,0)):=by rw [hw];show(w.heap.push _)[w.heap.size]? =_;simp
  refine Rc 4 (Yl rfl (Uo rfl Tryz.underlying43 GX rfl rfl rfl (by omega) (by omega)) (Ro 5 (Ef rfl (YP rfl rfl rfl (by rw [hkk];exact hrz _)) ?_)))
  rintro _ wx ⟨rfl,e⟩
  have e:=e.symm
  subst e
  refine Ro 7 (Yl rfl (Ho rfl Tryz.underlying43 GX rfl rfl rfl (by omega) (by omega)) (Ro 1 (Ef rfl (PM rfl rfl rfl (Nt (cs:=us) Tryz.underlying43 hi1 es (by rw [hul,List.length_singleton,Fx (by omega)]) (hsrcv w1 (X1.block b hbl)) hq (by rw [hul,hRs];omega) hun)) ?_)))
  rintro _ _ rfl
  refine Ro 3 (WC.heldD 8 Tryz.hm (by kernel_rfl) fun w2 X2 c0=>?_)
  refine Hr c0 [0,1,2,3] (by kernel_rfl) (nV 4 c0 rfl (by kernel_rfl) rfl (Ho rfl Tryz.underlying43 GX rfl rfl hw2 (by omega) (by omega)) (Hr c0 [5,6] (by kernel_rfl) (nV 7 c0 rfl (by kernel_rfl) rfl (Ho rfl Tryz.underlying43 GX rfl rfl rfl (by omega) (by omega)) (HL.tail rfl (by kernel_rfl) rfl ?_))))
  have hq1:=setRow_heap w1 w.heap.size ROW (ROW.toList.take (i*3)++us++ROW.toList.drop (i*3+us.length)).toArray 54 (0,0) hq
  have hq2:=hq1
  rw [←X2.block w.heap.size (CA.1 hq1).1]at hq2
  have hg2:w2.heap[g]? =some (.cells cur 54 (0,0)):=by rw [X2.block g (by rw [size_setRow];have:=X1.size;omega),setRow_other _ _ _ _ (by omega),X1.block g hgl];exact hh
  refine Ef rfl (PM rfl rfl rfl (Nt (cs:=cs.drop (i*3)) Tryz.underlying43 hi1 es (by rw [Er,hcl,Fx (by omega)];omega) (fun j v hj=>by rw [Addr.add_lit];rw [Bx]at hj;exact hcw w2 hg2 _ v hj) hq2 (by simp [hul,hRs,hcl];omega) (fun v hv=>hcn v (List.mem_of_mem_drop hv)))) ?_
  rintro _ _ rfl
  have hq3:=setRow_heap w2 w.heap.size _ ((ROW.toList.take (i*3)++us++ROW.toList.drop (i*3+us.length)).toArray.toList.take ((i+1)*3)++cs.drop (i*3)++(ROW.toList.take (i*3)++us++ROW.toList.drop (i*3+us.length)).toArray.toList.drop ((i+1)*3+(cs.drop (i*3)).length)).toArray 54 (0,0) hq2
  refine TL.noPan (l:=[]) (Re 9 (Ne rfl rfl ⟨_,rfl,_,rfl,Wj (c:=C_Target) hR hrep hul hi hh7 hq3 ?_ hGn hGm ?_,fun k hk=> .inr ?_,(((BH.refl _ w).ext X1).upd (JM.setRow _ _ _) (.inr (BN _))).ext X2|>.upd (JM.setRow _ _ _) (.inr (BN _))⟩))
  ·simp [hul,hRs,hcl,hn3];omega
  ·have:=VR (A:=cs) (U:=us) (Z:=Z) (a:=i*3) (m:=3) (N:=a0.length*3) hcl (by omega) hul (by omega)
   rw [show(i+1)*3=i*3+3 by omega,hn3,show(a0.length+1)*3=a0.length*3+3 by omega,hROW]
   exact this
  ·obtain rfl:=AM hk;exact BN _
 ·intro hf2
  have hroom:a0.length+1<=cap:=by have:=Fy hf2;rw [hw1]at this;omega
  refine Rc 8 (Yl rfl (Uo rfl Tryz.underlying43 GX rfl rfl hw1 hroom (by omega)) (Ro 11 (Yl rfl (Ho rfl Tryz.underlying43 GX rfl rfl hw2 (by omega) (by omega)) (Ro 0 ?_))))
  obtain⟨curv,tv,hcv⟩:=hp b rfl
  refine Ef rfl (Xt rfl Tryz.func65 rfl rfl rfl rfl rfl rfl (Lib.run_overlaps_apart w 43 4 54 Tryz.underlying43 3 (fun w=>by simp [sizeOf,typeInfo,hi1,es]) _ _ _ _ _ _ (fun e=>hgb e.symm) tv 54 curv.size cur.size ?_ ?_ ?_ ?_ ?_)) ?_
  ·simp [World.shape?,hcv]
  ·simp [World.shape?,hh]
  ·omega
  ·simp [World.frozen?,hcv]
  ·simp [World.frozen?,hcv]
  rintro _ wx ⟨rfl,e⟩
  have e:=e.symm
  subst e
  refine Ro 3 (WC.cond_t rfl (Rc 1 (WC.heldD 8 Tryz.hm (by kernel_rfl) fun w2 X2 c0=>?_)))
  have hg2:w2.heap[g]? =some (.cells cur 54 (0,0)):=by rw [X2.block g hgl];exact hh
  refine Hr c0 [0,1,2,3] (by kernel_rfl) (nV 4 c0 rfl (by kernel_rfl) rfl (Ho rfl Tryz.underlying43 GX rfl rfl hw2 (by omega) (by omega)) (Hr c0 [5,6] (by kernel_rfl) (nV 7 c0 rfl (by kernel_rfl) rfl (Ho rfl Tryz.underlying43 GX rfl rfl rfl (by omega) (by omega)) (HL.tail rfl (by kernel_rfl) rfl ?_))))
  refine Ef rfl (PM rfl rfl rfl (Nt (cs:=cs.drop (i*3)) Tryz.underlying43 hi1 es (by rw [Er,hcl,Nat.min_eq_right (by omega)];omega) (fun j v hj=>by rw [Addr.add_lit];rw [Bx]at hj;exact hcw w2 hg2 _ v hj) hg2 (by rw [Er];omega) (fun v hv=>hcn v (List.mem_of_mem_drop hv)))) ?_
  rintro _ _ rfl
  have hq1:=setRow_heap w2 g cur (cur.toList.take ((i+1)*3)++cs.drop (i*3)++cur.toList.drop ((i+1)*3+(cs.drop (i*3)).length)).toArray 54 (0,0) hg2
  refine TL.noPan (l:=[]) (Re 5 (Yl rfl (Ho rfl Tryz.underlying43 GX rfl rfl rfl (by omega) (by omega)) (Ro 1 (Ef rfl (PM rfl rfl rfl (Nt (cs:=us) Tryz.underlying43 hi1 es (by rw [hul,List.length_singleton,Fx (by omega)]) (hsrcv _ (by rw [setRow_other _ _ _ _ (fun e=>hgb e.symm),X2.block b hbl])) hq1 (by simp [hul,hcl];omega) hun)) ?_))))
  rintro _ _ rfl
  have hq2:=setRow_heap _ g _ ((cur.toList.take ((i+1)*3)++cs.drop (i*3)++cur.toList.drop ((i+1)*3+(cs.drop (i*3)).length)).toArray.toList.take (i*3)++us++(cur.toList.take ((i+1)*3)++cs.drop (i*3)++cur.toList.drop ((i+1)*3+(cs.drop (i*3)).length)).toArray.toList.drop (i*3+us.length)).toArray 54 (0,0) hq1
  refine Ro 10 (Ne rfl rfl ⟨_,rfl,_,rfl,Wj (c:=C_Target) hR hrep hul hi hBg hq2 ?_ hroom h6 ?_,fun k hk=> .inl hk,(((BH.refl (pO (.slice (some ⟨g,0,none⟩) a0.length cap)) w).ext X2).upd (b:=g) (JM.setRow _ g _) (.inl rfl)).upd (b:=g) (JM.setRow _ g _) (.inl rfl)⟩)
  ·simp [hul,hcl,hn3];omega
  ·have:=XV (L:=cur.toList) (A:=cs) (U:=us) (a:=i*3) (m:=3) (N:=a0.length*3) h8.symm (by omega) hul (by simp;omega)
   rw [show(i+1)*3=i*3+3 by omega,hn3,show(a0.length+1)*3=a0.length*3+3 by omega]
   exact this
def LJ(n:Nat)(a0:List Aj)(a1:Int)(k0:Int->Int->Option (Int×Bool)):Nat->Int->Int->Option (Int×Bool)
 |0,_,_=>none
 |m+1,a,b=>cond (decide (a<b)) ((AL a0 (wrap .i64 (Nz .u64 (IntKind.wrap IntKind.u64 (wrap .i64 (a+b))) 1))).bind fun d=>(Wr n d a1).bind fun c=>cond (decide (c<0)) (LJ n a0 a1 k0 m (wrap .i64 ((wrap .i64 (Nz .u64 (IntKind.wrap IntKind.u64 (wrap .i64 (a+b))) 1))+1)) b) (LJ n a0 a1 k0 m a (wrap .i64 (Nz .u64 (IntKind.wrap IntKind.u64 (wrap .i64 (a+b))) 1)))) (k0 a b)
def bA(n:Nat)(a0:List Aj)(a1:Int):Option (Int×Bool):=LJ n a0 a1 (fun b e=>(cond (decide (b<(a0.length:Int))) ((AL a0 b).bind fun d=>(Wr n d a1).bind fun a=>some ((a==0))) (some false)).bind fun c=>some (b,c)) n 0 ((a0.length:Int))
theorem zL{f:List Aj}{h:Int}{i:Int×Bool}{j:Value}(a:bA n f h=some i)(hH:H<=w.heap.size)(k:At C_Target w H f j):
 Calls prog 30 [j,.i h,.func (.func 31) #[] #[]].toArray w (Fu fun q r=>q= .tuple #[.i i.1,.bool i.2]∧AU w r):=by
 have s:=AU.refl w;unfold bA at a;refine AE func30 z ntmps30 (Rc 9 (Yl z (HK z Jp (k.oj s)) (Ro 12 ?_)));have⟨t,u,a⟩:=MW a;refine WC.loopD (fun c g wl=>∃d e:Int,Kn 49 [(0,j),(1,.i h),(2,.func (.func 31) #[] #[]),(8,.i ((f.length:Int))),(9,.i d),(10,.i e)] g∧AU w wl∧LJ n f h t c d e=some i) n ?_ ?_
 ·intro g hK;exact⟨0,((f.length:Int)),hK.sub z,AU.refl _,a⟩
 ·rintro c g _ ⟨d,e,hK,b,a⟩;refine EK hK ?_;rcases c with _|c;exact EI a;rw [LJ.eq_2]at a;have I:=b.size;refine Rc 8 (Wc z a ?_ ?_)
  ·intro a;refine Rc 8 (Yl z (Hf z qF SZ z) (Yl z (Wq z z z (by decide)) (Yl z (Hf z SZ qF z) (Ro 8 (Ix a (k.oj b) Jp GX ?_)))));rintro l _ a _ ⟨_,_,_,rfl,_,v,x⟩;obtain rfl:=Dr v;refine Yl z (FT (us:=[.i l.c,.i l.b.c,.i l.b.b]) z Sd x GX) (Ro 1 ?_);have⟨_,y,a⟩:=AO a;refine Ef z (Gx z jE z z (tQ y:)) ?_;rintro _ _ ⟨rfl,m⟩;have⟨_,_⟩:=Et b m;refine Ro 3 (Wc z a ?_ ?_)
   ·intro a;refine Rc 7 ?_;intro g hK;exact⟨c,nr,(wrap .i64 ((wrap .i64 (Nz .u64 (IntKind.wrap IntKind.u64 (wrap .i64 (d+e))) 1))+1)),e,hK.sub z,(AU.trans b m),a⟩
   ·intro a;refine Rc 6 ?_;intro g hK;exact⟨c,nr,d,(wrap .i64 (Nz .u64 (IntKind.wrap IntKind.u64 (wrap .i64 (d+e))) 1)),hK.sub z,(AU.trans b m),a⟩
  ·intro a;refine Rc 3 ?_
   subst u
   refine Re 9 (JD 9 [35] 48 39 a ?_ ?_)
   ·intro A a;refine Ro 3 (Ix a (k.oj b) Jp GX ?_);rintro o _ a _ ⟨_,_,_,rfl,_,B,C⟩;obtain rfl:=Dr B;refine Yl z (FT (us:=[.i o.c,.i o.b.c,.i o.b.b]) z Sd C GX) (Ro 1 ?_);have⟨_,D,a⟩:=AO a;refine Ef z (Gx z jE z z (tQ D:)) ?_;rintro _ _ ⟨rfl,p⟩;have⟨_,_⟩:=Et b p;cases CF a;exact Ro 1 (Ro 1 (Gj p))
   intro A a;intro b0 E;have⟨F,_⟩:=Et b E;exact GQ a F
def Ih(n:Nat)(a0:Cu)(a1:Au)(r41:List BP)(k0:(List Aj)->Int->Option ((List Aj)×Bool)):Nat->(List Aj)->Int->Option ((List Aj)×Bool)
 |0,_,_=>none
 |m+1,f,e=>cond (decide (e<(r41.length:Int))) ((AL r41 e).bind fun b=>(SP n a0 b).bind fun g=>(bA n f g.1).bind fun c=>jn (fun(kj:(List Aj)->Option ((List Aj)×Bool))=>cond (!c.2) ((kO n f c.1 ([(Aj.mk g.1 ((BF.mk (-1000000000) 1000000000)))])).bind fun j=>kj j) (kj f)) (fun d=>(AL d c.1).bind fun a=>(AL a1.b g.1).bind fun i=>(AL a1.b g.1).bind fun h=>(RU n a0.b b.c b.d).bind fun o=>cond (o.1.b==4) ((Qj n (wrap .i64 (h.b+b.b))).bind fun k=>cond (!k) (some (([]:List Aj),false)) (Ih n a0 a1 r41 k0 m ((d.set (c.1).toNat ((Aj.mk a.c ((BF.mk a.b.c (min a.b.b (wrap .i64 (h.b+b.b))))))))) (wrap .i64 (e+1)))) ((Qj n (wrap .i64 (i.c-b.b))).bind fun l=>cond (!l) (some (([]:List Aj),false)) (Ih n a0 a1 r41 k0 m ((d.set (c.1).toNat ((Aj.mk a.c ((BF.mk (max a.b.c (wrap .i64 (i.c-b.b))) a.b.b)))))) (wrap .i64 (e+1)))))) (k0 f e)
def Zw(n:Nat)(a0:Cu)(a1:Au)(a2:BS):Option ((List Aj)×Bool):=(UT n a0 a1 a2).bind fun b=>Ih n a0 a1 b (fun a c=>some (a,true)) n (([]:List Aj)) 0
theorem yI{q:Cu}{X:Au}{e0:BS}{Y:(List Aj)×Bool}{M N O P Q f0 g0 h0 i0 j0:Value}{A:Nat}{k0 l0 m0:Value}(hF:Zw n q X e0=some Y)(hH:H<=w.heap.size)(B:BO w A [M,N,O,P,Q,f0,g0,h0,i0,j0] 102)(v0:At C_Cell w H q.b.d.b M)(w0:At C_Instance w H q.b.b.b N)(x0:At Bc w H q.b.b.c O)(y0:At C_Port w H q.b.b.d P)(z0:At C_Wire w H q.b.c Q)(R0:At C_place w H q.c f0)(S0:At C_Link w H q.d g0)(T0:At cJ w H q.f h0)(U0:At Ny w H q.g i0)(V0:At cJ w H q.h j0)(B1:At CD w H X.c k0)(A0:At C_Span w H X.b l0)(C1:At C_Span w H X.f m0):
 Calls prog 14 [.p A,.agg #[k0,l0,m0],.agg #[.i e0.c,.i e0.d,.i e0.b]].toArray w (Fu fun D1 W0=>∃X0,D1= .tuple #[X0,.bool Y.2]∧AC C_Target W0 w.heap.size (Iv 0 0) 54 Y.1 X0∧AU w W0):=by
 have:=BO.lt B;unfold Zw at hF;refine AE func14 z ntmps14 (Rc 2 (Ef z (AS z z) ?_));rintro _ _ ⟨G,rfl,_,_,B0,R⟩;have Q2:=B0.size;have B:=B.ext B0;refine Ef z (AS z z) ?_;rintro _ Y0 ⟨_,rfl,_,_,Z0,E1⟩;have⟨l,_⟩:=Et B0 Z0;have⟨B,R⟩:=Di B R Z0;refine Ro 13 (Yl z (Ci z Ep R DT) (Yl z (Ci z Ga E1 FL) ?_));refine Cg hF iK (fun _ C=>(sR C (by omega) B (v0.oj l) (w0.oj l) (x0.oj l) (y0.oj l) (z0.oj l) (R0.oj l) (S0.oj l) (T0.oj l) (U0.oj l) (V0.oj l) (B1.oj l) (A0.oj l) (C1.oj l):)) ?_;rintro Z hF S D ⟨_,rfl,C0,a1⟩;have⟨F1,_⟩:=Et l a1;have⟨B,R⟩:=Di B R a1;have a0:=AC.blk C0;refine Yl z (Hm z IG C0) (Ro 4 ?_);have G1:AC C_Target D (D.heap.size) (Iv 0 0) 54 [] (.slice none 0 0):=AC.nil _ _ _ _ _;have n0:Bd (Value.slice none 0 0) D.heap.size D.heap.size:=Hp;refine WC.loopD (fun T s wl=>∃(U:List Aj) (E:Value) (I:Int),Kn 117 [(0,.p A),(4,.p G),(8,E),(22,S),(23,.i ((Z.length:Int))),(24,.i I)] s∧AU w wl∧D.heap.size<=wl.heap.size∧BO wl A [M,N,O,P,Q,f0,g0,h0,i0,j0] 102∧BO wl G [k0,l0,m0] 38∧AC C_Target wl (D.heap.size) (Iv 0 0) 54 U E∧Bd E D.heap.size wl.heap.size∧AC C_Check wl (Y0.heap.size) (Iv 0 0) 56 Z S∧Nb E A∧Nb E G∧No E S∧Ih n q X Z (fun U I=>(some (U,true))) T U I=some Y) n ?_ ?_
 ·intro s hK;exact⟨(([]:List Aj)),((.slice none 0 0)),0,hK.sub z,F1,nr,B,R,G1,(fun t hg=>by have:=n0 t hg;omega),C0,(Nb.of n0),(Nb.of n0),(No.of n0 a0),hF⟩
 ·rintro T s _ ⟨U,E,I,hK,b1,_,i,m,o,F,j,D0,E0,c1,hF⟩;refine EK hK ?_;rcases T with _|T;exact EI hF;rw [Ih.eq_2]at hF;refine Rc 6 (Wc z hF ?_ ?_)
  ·intro hF;refine Rc 6 (Io hF j IG Gk ?_);rintro h _ hF _ ⟨_,_,rfl,_,H1,I1⟩;obtain rfl:=DY H1;refine Yl z (FT (us:=[.i h.c,.i h.d,.i h.f,.i h.b]) z SD I1 Gk) (Ef z (AZ z So) ?_);rintro _ _ ⟨o0,rfl,_,_,d1,p⟩;have⟨J1,_⟩:=Et b1 d1;have⟨i,m,o,j⟩:=Gp i m o j d1;refine Ef z (DQ z p Gk z z) ?_;rintro _ _ ⟨e1,p⟩;have⟨u,_⟩:=Eu J1 e1;have⟨i,m,o,j⟩:=Jq i m (Am o F) (Am j a0) e1;refine Ro 5 (Yl z (Ci z SD p Gk) ?_);refine Cg hF iX (fun _ C=>(rI C (by omega) i (v0.oj u) (w0.oj u) (x0.oj u) (y0.oj u) (z0.oj u) (R0.oj u) (S0.oj u) (T0.oj u) (U0.oj u) (V0.oj u):)) ?_;rintro b0 hF _ _ ⟨rfl,f1⟩;have⟨L1,_⟩:=Et u f1;have⟨i,m,p,o,j⟩:=Gw i m p o j f1;refine Ro 11 (Cg hF pN (fun _ C=>(zL C nr (AC.slf o nz nr):)) ?_);rintro F0 hF _ M1 ⟨rfl,g1⟩;have⟨h1,_⟩:=Et L1 g1;have⟨i,m,p,o,j⟩:=Gw i m p o j g1;have⟨N1,O1,hF⟩:=VI hF;refine Ro 14 (WC.joinD (fun s wl=>∃(c0:List Aj) (x:Value),Kn 117 [(0,.p A),(4,.p G),(8,x),(10,.p o0),(11,.i b0.1),(13,.i F0.1),(22,S),(23,.i ((Z.length:Int))),(24,.i I)] s∧AU w wl∧M1.heap.size<=wl.heap.size∧BO wl A [M,N,O,P,Q,f0,g0,h0,i0,j0] 102∧BO wl G [k0,l0,m0] 38∧BO wl o0 [.i h.c,.i h.d,.i h.f,.i h.b] 56∧AC C_Target wl (D.heap.size) (Iv 0 0) 54 c0 x∧Bd x D.heap.size wl.heap.size∧AC C_Check wl (Y0.heap.size) (Iv 0 0) 56 Z S∧Nb x A∧Nb x G∧Nb x o0∧No x S∧N1 c0=some Y) ?_ ?_)
   ·refine Wc z hF ?_ ?_
    ·intro hF;refine Rc 4 (Yl z (DS [.i (-1000000000),.i 1000000000] z z GS JL z) (Yl z (Bt (uss:=[(0,[.i b0.1]),(1,[.i (-1000000000),.i 1000000000])]) (out:=[.i b0.1,.i (-1000000000),.i 1000000000]) z z WJ jI z z) (Ef z (Aq C_Target ([(Aj.mk b0.1 ((BF.mk (-1000000000) 1000000000)))]) [[.i b0.1,.i (-1000000000),.i 1000000000]] z Jp QR z z ⟨KO,trivial⟩) ?_)));rintro _ _ ⟨_,i1,_,_,j1,k1⟩;have⟨P1,_⟩:=Et h1 j1;have⟨i,m,p,o,j⟩:=Gw i m p o j j1;have Q1:=BK i1;clear i1;have⟨R1,S1,hF⟩:=AO hF;refine Ef z (GO z rQ (AbM S1 o (by omega) (AC.slb k1 Q1) (by omega) (fun t hg=>by have:=F t hg;omega) (AC.plain k1):)) ?_;rintro T1 _ ⟨_,rfl,l1,U1,V1⟩;have y:=Ah.of V1 U1;have⟨W1,_⟩:=Ge P1 y F;have X1:Nb _ A:=Gb y D0;have i:=Ah.box y i D0;have Y1:Nb _ G:=Gb y E0;have m:=Ah.box y m E0;have Z1:Nb _ o0:=Gb y (Nb.of F);have p:=Ah.box y p (Nb.of F);have m1:=c1;have a2:=Gn y m1 a0;have j:=Ah.ownF y j m1;have b2:=HZ y l1 F;refine Ro 2 ?_;intro s hK;exact⟨z,R1,T1,hK.sub z,W1,(by omega),i,m,p,l1,(fun t hg=>by have:=b2 t hg;omega),j,X1,Y1,Z1,a2,hF⟩
    ·intro hF;refine Rc 1 ?_;intro s hK;exact⟨z,U,E,hK.sub z,h1,(by omega),i,m,p,o,(fun t hg=>by have:=F t hg;omega),j,D0,E0,(Nb.of F),c1,hF⟩
   ·rintro s _ ⟨c0,x,hK,c2,_,b,a,r,c,J,d,p0,q0,_,r0,hF⟩
    subst O1
    revert hK;revert s;refine(?_:NX _ _ _ _ _);refine Re 5 (Io hF c Jp GX ?_);rintro g V hF _ ⟨_,_,rfl,k,d2,_⟩;obtain rfl:=Dr d2;refine Yl z (CK z Ie) (Ro 4 ?_);have⟨s0,e2,hF⟩:=AO hF;have⟨t0,f2,hF⟩:=AO hF;refine Du 20 Tryz.hm fun n1 o1 f=>?_;have⟨G0,_⟩:=Et c2 o1;have⟨b,a,r,c,d⟩:=Gw b a r c d o1;refine Br 0 f z (CK z EY) (Br 1 f z (Ea z El a z) (Fw f [2] (HT 3 f z (JB z GZ CU (A0.oj G0) e2) ?_)));rintro _ ⟨_,_,_,rfl,_,g2,h2⟩;obtain rfl:=Bp g2;refine Br 4 f z (CK z Cz) (Br 5 f z (GB 0 z AR h2 z z) (Br 6 f z (CK z Hk) (Br 7 f z (Ea z AR r z) (Fw f [8] (Br 9 f z (CK z EY) (Br 10 f z (Ea z El a z) (Fw f [11] (HT 12 f z (JB z GZ CU (A0.oj G0) f2) ?_))))))));rintro _ ⟨_,_,_,rfl,_,i2,j2⟩;obtain rfl:=Bp i2;refine Br 13 f z (CK z Cr) (Br 14 f z (GB 1 z AR j2 z z) (Br 15 f z (CK z Hk) (Br 16 f z (Ea z AR r z) (Fw f [17] (Br 18 f z (DS [.i (wrap .i64 (s0.c-h.b)),.i (wrap .i64 (t0.b+h.b))] z z GS JL z) (LK 19 z (AZ z GS) ?_))))));rintro _ k2 ⟨_,rfl,_,_,H0,e⟩;have l2:AU n1 k2:=AU.trans (AU.refl n1) H0;have⟨m2,_⟩:=Et G0 H0;have⟨b,a,r,c,d⟩:=Gw b a r c d H0;refine⟨l2,?_⟩;refine JN z (Ef z (DQ z e CU z z) ?_);rintro _ _ ⟨p1,e⟩;have⟨o2,_⟩:=Eu m2 p1;have⟨b,a,r,c,d⟩:=NL b a r (Am c J) (Am d a0) p1;refine TL.noPan (l:=[]) (Re 2 ?_);have⟨_,p2,hF⟩:=AO hF;refine Du 14 Tryz.hm fun q1 r1 v=>?_;have⟨q2,_⟩:=Et o2 r1;have⟨b,a,r,e,c,d⟩:=JQ b a r e c d r1;refine Fw v [0] (Br 1 v z (Bj z z) (Br 2 v z (CK z Ky) (Br 3 v z (FT (us:=[M,N,O,P,Q]) z CR (Ab.sub (BO.cells b) 0 5:Ab _ _ _ [M,N,O,P,Q]) Bv) (Br 4 v z (CK z Nk) (Br 5 v z (Ea z AR r z) (Br 6 v z (CK z PO) (Br 7 v z (Ea z AR r z) ?_)))))));refine dP 12 z z HU fun _ _ _ _ _ _=>?_;refine Sq 8 z (by kernel_rfl) ?_;rintro s1 I0;have⟨W,_⟩:=Et q2 I0;have⟨b,a,e,c,d⟩:=Gw b a e c d I0;refine⟨_,(GO z iJ (oU p2 (by omega) (v0.oj W) (w0.oj W) (x0.oj W) (y0.oj W) (z0.oj W):)),?_⟩;rintro _ r2 ⟨_,_,rfl,J0,K0,L0⟩;have t1:AU s1 r2:=AU.trans (AU.refl s1) L0;have⟨s2,_⟩:=Et W L0;have⟨b,a,e,c,d⟩:=Gw b a e c d L0;refine⟨t1,?_⟩;refine TV 9 v z (by kernel_rfl) (Kp z z) (TV 10 v z (by kernel_rfl) (FP z z z) (TV 11 v z (by kernel_rfl) (FP z z z) (Tc (by kernel_rfl) ?_)));rintro _ _ M0 _ N0 ⟨_,_⟩;have⟨t2,_⟩:=Et s2 M0;have⟨b,a,e,J0,K0,c,d⟩:=MV b a e J0 K0 c d M0;refine LK 13 z (DQ z N0 Ct (AB z (AB z (AB z (AB z (AB (AF.one J0) (AB (AF.one K0) BC)))))) z) ?_;rintro _ u2 ⟨O0,N0⟩;have w2:AU q1 u2:=Below.trans (AU.trans (AU.trans (AU.trans (AU.refl q1) I0) t1) M0) (JM.below O0 (by omega));have⟨u1,_⟩:=Eu t2 O0;have⟨b,a,e,c,d⟩:=NL b a e (Am c J) (Am d a0) O0;refine⟨w2,?_⟩;refine JN z (Tr 1 (TL.noPan (l:=[]) (Re 3 (Fl EX AR N0 (Ro 3 (Wc z hF ?_ ?_))))))
    ·intro hF;refine Rc 3 (Fl Cr AR e ?_);refine Cs hF u1 Sb (fun _=>XW) ?_;rintro _ hF _ x2 ⟨v1,_⟩;have⟨b,a,e,c,d⟩:=Gw b a e c d x2;refine Ro 3 (Wc z hF ?_ ?_)
     ·intro hF;cases CF hF;exact Rc 13 (Ne z z ⟨_,z,_,z,AC.nil _ _ _ _ _,v1⟩)
     ·intro hF;refine Rc 2 ?_;refine Du 8 Tryz.hm fun d4 w1 K=>?_;have⟨y2,_⟩:=Et v1 w1;have⟨b,a,e,c,d⟩:=Gw b a e c d w1;refine Fw K [0,1] (Br 2 K z (Bj z z) (Br 3 K z (CK z Cr) ?_));have⟨_,z2,A2⟩:=AC.at2 c k V;obtain rfl:=Dr z2;refine Br 4 K z (GB 2 z AR A2 z z) (Br 5 K z (CK z Cr) (Br 6 K z (Ea z AR e z) (Br 7 K z (GW z z z) (JN z (Yl z (Bj z z) (Yl z (CK z Cr) ?_))))));have⟨_,x1,B2⟩:=AC.at2 c k V;have C2:=x1;obtain rfl:=Dr x1;refine Ef z (Be (c:=C_Target) (us':=[.i g.c,.i g.b.c,.i (min g.b.b (wrap .i64 (t0.b+h.b)))]) (y':=(Aj.mk g.c ((BF.mk g.b.c (min g.b.b (wrap .i64 (t0.b+h.b))))))) 2 _ z z z c k V z Bb z C2 B2 z z KO (fun P0 C=>absurd C.2 (AV P0))) ?_;rintro _ _ ⟨d0,D2⟩;have⟨E2,_⟩:=Eu y2 d0 (by have:=J _ k;omega);have b:=b.upd d0 (by have:=p0 _ k;omega);have a:=a.upd d0 (by have:=q0 _ k;omega);have e:=e.upd d0 (by have:=J _ k;omega);have d:=d.upd d0 (fun Q0 hq=>by have:=r0 _ Q0 k hq;omega);refine TL.noPan (l:=[]) (Re 7 ?_);intro s hK;exact⟨T,nr,((c0.set (F0.1).toNat ((Aj.mk g.c ((BF.mk g.b.c (min g.b.b (wrap .i64 (t0.b+h.b))))))))),x,(wrap .i64 (I+1)),hK.sub z,E2,(by omega),b,a,D2,(fun t hg=>by have:=J t hg;omega),d,p0,q0,r0,hF⟩
    ·intro hF;refine Rc 3 (Fl Cz AR e ?_);refine Cs hF u1 Sb (fun _=>XW) ?_;rintro _ hF _ F2 ⟨y1,_⟩;have⟨b,a,e,c,d⟩:=Gw b a e c d F2;refine Ro 3 (Wc z hF ?_ ?_)
     ·intro hF;cases CF hF;exact Rc 13 (Ne z z ⟨_,z,_,z,AC.nil _ _ _ _ _,y1⟩)
     ·intro hF;refine Rc 2 ?_;refine Du 8 Tryz.hm fun m4 z1 L=>?_;have⟨G2,_⟩:=Et y1 z1;have⟨b,a,e,c,d⟩:=Gw b a e c d z1;refine Fw L [0,1] (Br 2 L z (Bj z z) (Br 3 L z (CK z Cz) ?_));have⟨_,H2,I2⟩:=AC.at2 c k V;obtain rfl:=Dr H2;refine Br 4 L z (GB 1 z AR I2 z z) (Br 5 L z (CK z Cz) (Br 6 L z (Ea z AR e z) (Br 7 L z (Hc z z z) (JN z (Yl z (Bj z z) (Yl z (CK z Cz) ?_))))));have⟨_,A1,J2⟩:=AC.at2 c k V;have K2:=A1;obtain rfl:=Dr A1;refine Ef z (Be (c:=C_Target) (us':=[.i g.c,.i (max g.b.c (wrap .i64 (s0.c-h.b))),.i g.b.b]) (y':=(Aj.mk g.c ((BF.mk (max g.b.c (wrap .i64 (s0.c-h.b))) g.b.b)))) 1 _ z z z c k V z Bb z K2 J2 z z KO (fun P0 C=>absurd C.2 (AV P0))) ?_;rintro _ _ ⟨u0,L2⟩;have⟨M2,_⟩:=Eu G2 u0 (by have:=J _ k;omega);have b:=b.upd u0 (by have:=p0 _ k;omega);have a:=a.upd u0 (by have:=q0 _ k;omega);have d:=d.upd u0 (fun Q0 hq=>by have:=r0 _ Q0 k hq;omega);refine TL.noPan (l:=[]) (Re 7 ?_);intro s hK;exact⟨T,nr,((c0.set (F0.1).toNat ((Aj.mk g.c ((BF.mk (max g.b.c (wrap .i64 (s0.c-h.b))) g.b.b)))))),x,(wrap .i64 (I+1)),hK.sub z,M2,(by omega),b,a,L2,(fun t hg=>by have:=J t hg;omega),d,p0,q0,r0,hF⟩
  ·intro hF;cases CF hF;exact Rc 13 (Ne z z ⟨_,z,_,z,AC.base o,b1⟩)
def Qi(n:Nat)(a0:AJ)(a1:Au)(a2:BS):Option ((List Aj)×Int):=(VG n a0 a1 a2).bind fun a=>OQ a.1 (cond (a.2 !=0) (some (([]:List Aj),a.2)) none) (fun b=>cond (a.2 !=0) (some (([]:List Aj),a.2)) ((Zw n ((Cu.mk a0 b.c b.d b.f b.g b.h)) a1 a2).bind fun c=>cond (!c.2) (some (([]:List Aj),3)) (some (c.1,0))))
theorem AaC{d:AJ}{g:Au}{h:BS}{j:(List Aj)×Int}{k l m o p q r s:Value}(hF:Qi n d g h=some j)(hH:H<=w.heap.size)(t:At C_Cell w H d.d.b k)(u:At C_Instance w H d.b.b l)(v:At Bc w H d.b.c m)(x:At C_Port w H d.b.d o)(y:At C_Wire w H d.c p)(A:At CD w H g.c q)(B:At C_Span w H g.b r)(C:At C_Span w H g.f s):
 Calls prog 6 [.agg #[k,l,m,o,p],.agg #[q,r,s],.agg #[.i h.c,.i h.d,.i h.b]].toArray w (Fu fun T D=>∃E,T= .tuple #[E,.i j.2]∧AC C_Target D w.heap.size (Iv 0 0) 54 j.1 E∧AU w D):=by
 unfold Qi at hF;refine AE func6 z ntmps6 (Rc 2 (Ef z (AS z z) ?_));rintro _ _ ⟨_,rfl,_,_,F,e⟩;have d0:=F.size;refine Ef z (AS z z) ?_;rintro _ _ ⟨_,rfl,_,_,G,c⟩;have⟨U,_⟩:=Et F G;have e:=e.ext G;refine Ef z (AS z z) ?_;rintro _ _ ⟨_,rfl,_,_,I,f⟩;have⟨b,_⟩:=Et U I;have⟨e,c⟩:=Di e c I;refine Ro 6 (Yl z (Ci z CR e Bv) (Yl z (Ci z Ep c DT) (Yl z (Ci z Ga f FL) ?_)));have⟨V,W,hF⟩:=AO hF;refine Ef z (GO z iN (qO W (by omega) (t.oj b) (u.oj b) (v.oj b) (x.oj b) (y.oj b) (A.oj b) (B.oj b) (C.oj b):)) ?_;rintro _ _ ⟨_,rfl,J,K⟩;have⟨a,_⟩:=Et b K;have⟨c,f⟩:=Di c f K
 rcases i:V.1 with _|r0
 ·replace hF:=Yc i hF;obtain rfl:=cM i J;refine Ro 14 (Wc z hF ?_ ?_)
  ·intro hF;cases CF hF;exact Rc 9 (Ne z z ⟨_,z,_,z,AC.nil _ _ _ _ _,a⟩)
  ·intro hF;exact Rc 5 (Yl z (Ci z Ep c DT) (Yl z (Ci z Ga f FL) (EI hF)))
 ·replace hF:=aQ i hF;obtain⟨_,_,_,_,_,_,rfl,L,_,M,N,O,P,Q,_,_,_,_,_,_,_,_,_,_⟩:=bX i J;have J0:=AC.blk M;have K0:=AC.blk N;have L0:=AC.blk O;have M0:=AC.blk P;have N0:=AC.blk Q;have:=BO.lt L;refine Ro 14 (Wc z hF ?_ ?_)
  ·intro hF;cases CF hF;exact Rc 9 (Ne z z ⟨_,z,_,z,AC.nil _ _ _ _ _,a⟩)
  ·intro hF;refine Rc 5 (Yl z (Ci z Ep c DT) (Yl z (Ci z Ga f FL) ?_));refine Cg hF pZ (fun _ X=>(yI X nr L (t.ph hH a) (u.ph hH a) (v.ph hH a) (x.ph hH a) (y.ph hH a) (AC.slf M nz nr) (AC.slf N nz nr) (AC.slf O nz nr) (AC.slf P nz nr) (AC.slf Q nz nr) (A.ph hH a) (B.ph hH a) (C.ph hH a):)) ?_;rintro _ hF _ _ ⟨_,rfl,R,Y⟩;have⟨S,_⟩:=Et a Y;have S0:=AC.blk R;refine Ro 14 (Wc z hF ?_ ?_)
   ·intro hF;cases CF hF;exact Rc 8 (Ne z z ⟨_,z,_,z,AC.nil _ _ _ _ _,S⟩)
   ·intro hF;cases CF hF;exact Rc 10 (Ne z z ⟨_,z,_,z,AC.base R,S⟩)
def YQ(n:Nat)(a0:AJ)(a1:Au)(a2:BS):Option ((List BP)×Int):=(VG n a0 a1 a2).bind fun a=>OQ a.1 (cond (a.2 !=0) (some (([]:List BP),a.2)) none) (fun b=>cond (a.2 !=0) (some (([]:List BP),a.2)) ((UT n ((Cu.mk a0 b.c b.d b.f b.g b.h)) a1 a2).bind fun c=>some (c,0)))
theorem xD{d:AJ}{g:Au}{h:BS}{j:(List BP)×Int}{k l m o p q r s:Value}(hF:YQ n d g h=some j)(hH:H<=w.heap.size)(t:At C_Cell w H d.d.b k)(u:At C_Instance w H d.b.b l)(v:At Bc w H d.b.c m)(x:At C_Port w H d.b.d o)(y:At C_Wire w H d.c p)(A:At CD w H g.c q)(B:At C_Span w H g.b r)(C:At C_Span w H g.f s):
 Calls prog 8 [.agg #[k,l,m,o,p],.agg #[q,r,s],.agg #[.i h.c,.i h.d,.i h.b]].toArray w (Fu fun S D=>∃E,S= .tuple #[E,.i j.2]∧AC C_Check D w.heap.size (Iv 0 0) 56 j.1 E∧AU w D):=by
 unfold YQ at hF;refine AE func8 z ntmps8 (Rc 2 (Ef z (AS z z) ?_));rintro _ _ ⟨_,rfl,_,_,F,e⟩;have d0:=F.size;refine Ef z (AS z z) ?_;rintro _ _ ⟨_,rfl,_,_,G,c⟩;have⟨T,_⟩:=Et F G;have e:=e.ext G;refine Ef z (AS z z) ?_;rintro _ _ ⟨_,rfl,_,_,I,f⟩;have⟨b,_⟩:=Et T I;have⟨e,c⟩:=Di e c I;refine Ro 6 (Yl z (Ci z CR e Bv) (Yl z (Ci z Ep c DT) (Yl z (Ci z Ga f FL) ?_)));have⟨U,V,hF⟩:=AO hF;refine Ef z (GO z iN (qO V (by omega) (t.oj b) (u.oj b) (v.oj b) (x.oj b) (y.oj b) (A.oj b) (B.oj b) (C.oj b):)) ?_;rintro _ _ ⟨_,rfl,J,K⟩;have⟨a,_⟩:=Et b K;have⟨c,f⟩:=Di c f K
 rcases i:U.1 with _|r0
 ·replace hF:=Yc i hF;obtain rfl:=cM i J;refine Ro 14 (Wc z hF ?_ ?_)
  ·intro hF;cases CF hF;exact Rc 9 (Ne z z ⟨_,z,_,z,AC.nil _ _ _ _ _,a⟩)
  ·intro hF;exact Rc 5 (Yl z (Ci z Ep c DT) (Yl z (Ci z Ga f FL) (EI hF)))
 ·replace hF:=aQ i hF;obtain⟨_,_,_,_,_,_,rfl,L,_,M,N,O,P,Q,_,_,_,_,_,_,_,_,_,_⟩:=bX i J;have J0:=AC.blk M;have K0:=AC.blk N;have L0:=AC.blk O;have M0:=AC.blk P;have N0:=AC.blk Q;have:=BO.lt L;refine Ro 14 (Wc z hF ?_ ?_)
  ·intro hF;cases CF hF;exact Rc 9 (Ne z z ⟨_,z,_,z,AC.nil _ _ _ _ _,a⟩)
  ·intro hF;refine Rc 5 (Yl z (Ci z Ep c DT) (Yl z (Ci z Ga f FL) ?_));refine Cg hF iK (fun _ W=>(sR W nr L (t.ph hH a) (u.ph hH a) (v.ph hH a) (x.ph hH a) (y.ph hH a) (AC.slf M nz nr) (AC.slf N nz nr) (AC.slf O nz nr) (AC.slf P nz nr) (AC.slf Q nz nr) (A.ph hH a) (B.ph hH a) (C.ph hH a):)) ?_;rintro _ hF _ _ ⟨_,rfl,R,X⟩;have⟨Y,_⟩:=Et a X;have S0:=AC.blk R;cases CF hF;exact Ro 5 (Ne z z ⟨_,z,_,z,AC.base R,Y⟩)
def KT(a0:List BP)(k0:Int->Int->Option Int):Nat->Int->Int->Option Int
 |0,_,_=>none
 |m+1,b,a=>cond (decide (a<(a0.length:Int))) ((AL a0 a).bind fun e=>(cond (decide (b<0)) (some true) ((AL a0 b).bind fun d=>some (decide (e.b<d.b)))).bind fun c=>cond c (KT a0 k0 m a (wrap .i64 (a+1))) (KT a0 k0 m b (wrap .i64 (a+1)))) (k0 b a)
def cG(n:Nat)(a0:List BP):Option Int:=KT a0 (fun a b=>some a) n (-1) 0
theorem zC{h:List BP}{k:Int}{i:Value}(a:cG n h=some k)(C:H<=w.heap.size)(l:At C_Check w H h i):
 Calls prog 10 [i].toArray w (Cf (.i k) w):=by
 have s:=AU.refl w;unfold cG at a;refine AE func10 z ntmps10 (Rc 14 (Yl z (HK z IG (l.oj s)) (Ro 4 ?_)));refine WC.loopD (fun d g wl=>∃e b:Int,Kn 28 [(0,i),(3,.i e),(6,i),(7,.i ((h.length:Int))),(8,.i b)] g∧AU w wl∧KT h (fun e b=>(some e)) d e b=some k) n ?_ ?_
 ·intro g c;exact⟨(-1),0,c.sub z,AU.refl _,a⟩
 ·rintro d g _ ⟨e,b,c,f,a⟩;refine EK c ?_;rcases d with _|d;exact EI a;rw [KT.eq_2]at a;have E:=f.size;refine Rc 6 (Wf a f ?_);intro a;refine Rc 7 (Ix a (l.oj f) IG Gk ?_);rintro j _ a _ ⟨_,_,_,rfl,_,t,u⟩;obtain rfl:=DY t;refine Yl z (FT (us:=[.i j.c,.i j.d,.i j.f,.i j.b]) z SD u Gk) (Ef z (AZ z So) ?_);rintro _ _ ⟨_,rfl,_,_,m,o⟩;have⟨v,_⟩:=Et f m;refine Ro 1 (Ef z (DQ z o Gk z z) ?_);rintro _ _ ⟨p,o⟩;have⟨r,_⟩:=Eu v p;refine Ro 3 (DH Tryz.hm (Qr 3 (OC 9 [0,3,4,6,7,8] 24 15 a ?_ ?_)))
  ·intro y a;refine Fq Hk AR o (Qr 2 (Iq a (l.oj r) IG Gk ?_));rintro _ _ a _ ⟨_,_,_,rfl,_,A,B⟩;obtain rfl:=DY A;refine JC Hk AR B (Qr 1 ?_);cases CF a;exact Qr 1 LD
  intro y a;refine QL.done fun Y q=>?_;have⟨_,_⟩:=Et r q;refine Re 1 (Wc z a ?_ ?_)
  ·intro a;refine Rc 11 ?_;intro g c;exact⟨d,nr,b,(wrap .i64 (b+1)),c.sub z,(AU.trans (Eu (AU.trans f m) p).1 q),a⟩
  ·intro a;refine Rc 8 ?_;intro g c;exact⟨d,nr,e,(wrap .i64 (b+1)),c.sub z,(AU.trans (Eu (AU.trans f m) p).1 q),a⟩
end Go.Proofs.YtejmafeocaidlabGreatDoor
