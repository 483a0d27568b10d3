/- The walks: every function that FnGates reaches computes the plain function that is typed beside it; no condition. -/
import Derived.Test.YtejmafeocaidlaaDoorWalkFnGatesB0
set_option linter.all false
set_option maxRecDepth 20000
set_option maxHeartbeats 40000000
namespace Go.Proofs.YtejmafeocaidlaaDoor
open Go Go.RowKit Go.Eng Go.Proofs.Tryd
open Go.IntKind (wrap)
variable {n H:Nat} {w:World}
def HV(n:Nat)(a0:Int)(a1:Int)(a2:Int):Option Bool:=some (((decide (a0>=a1))&&(decide (a0<=a2))))
theorem Lx{a b c:Int}{d:Bool}(e:HV n a b c=some d):
 Calls prog 32 [.i a,.i b,.i c].toArray w (BO (.bool d) w):=by
 have f:=AO.refl w;unfold HV at e;refine AF func32 z ntmps32 (Rc 11 (KD 4 [] 14 10 ?_));exact DF e f
def Jz(n:Nat)(a0:ByteArray):Option Bool:=(HV n ((a0.size:Int)) 1 8).bind fun e=>(cond e ((Kh n a0 ((ByteArray.mk #[97,98,99,100,101,102,103,104,105,106,107,108,109,110,111,112,113,114,115,116,117,118,119,120,121,122,48,49,50,51,52,53,54,55,56,57]))).bind fun d=>some ((d.toList==((ByteArray.mk #[])).toList))) (some false)).bind fun f=>(cond f ((HN a0 0).bind fun a=>(Nv n ((ByteArray.mk #[97,98,99,100,101,102,103,104,105,106,107,108,109,110,111,112,113,114,115,116,117,118,119,120,121,122])) a).bind fun c=>some (decide (c>=0))) (some false)).bind fun b=>some b
theorem QF{b:ByteArray}{c:Bool}(a:Jz n b=some c):
 Calls prog 29 [.string b].toArray w (BO (.bool c) w):=by
 have f:=AO.refl w;unfold Jz at a;refine AF func29 z ntmps29 (Rc 8 (Yl z (Ep z Lm z) ?_));refine Cs a f Es (fun _=>Lx) ?_;rintro o a p q ⟨d,r⟩;refine Ro 1 (Fe 4 [0] 10 6 a ?_ ?_)
 ·intro g a;refine Ro 1 (Cs a d PM (fun _=>RY) ?_);rintro s a t H ⟨u,v⟩;cases BV a;exact Ro 1 (Ro 1 (DW H))
 intro g a;intro x h;have⟨e,y⟩:=Et d h;refine Ro 1 (Fe 5 [] 16 11 a ?_ ?_)
 ·intro i a;have⟨A,j,a⟩:=AM a;refine Ro 1 (Yl z (CH z Lm z z j) ?_);refine Cs a e Pf (fun _=>RP) ?_;rintro B a C k ⟨D,E⟩;cases BV a;exact Ro 1 (Ro 1 (DW k))
 intro i a;intro F l;have⟨m,G⟩:=Et e l;exact DF a m
def HQ(n:Nat)(a0:List Ad):Option Int:=some ((a0.length:Int))
theorem Pj{a:List Ad}{b:Int}{c:Value}(d:HQ n a=some b)(g:H<=w.heap.size)(f:BF C_Pin w H a c):
 Calls prog 41 [c].toArray w (BO (.i b) w):=by
 have e:=AO.refl w;unfold HQ at d;exact AF func41 z ntmps41 (Rc 8 (Yl z (FJ z Br (f.oj e)) (DF d e)))
def EX(n:Nat)(a0:List ByteArray)(k0:Int->Option Bool):Nat->Int->Option Bool
 |0,_=>none
 |m+1,a=>cond (decide (a<(a0.length:Int))) ((AS a0 a).bind fun f=>(Jz n f).bind fun e=>(cond (!e) (some true) ((EL a0 0 a).bind fun c=>(KW n c f).bind fun b=>some b)).bind fun d=>cond d (some false) (EX n a0 k0 m (wrap .i64 (a+1)))) (k0 a)
def PC(n:Nat)(a0:List ByteArray):Option Bool:=EX n a0 (fun a=>some true) n 0
theorem Tl{f:List ByteArray}{i:Bool}{g:Value}(a:PC n f=some i)(v:H<=w.heap.size)(j:BF CT w H f g):
 Calls prog 48 [g].toArray w (BO (.bool i) w):=by
 have m:=AO.refl w;unfold PC at a;refine AF func48 z ntmps48 (Rc 9 (Yl z (FJ z GF (j.oj m)) (Ro 4 ?_)));refine WC.loopD (fun b h wl=>∃c:Int,Kn 23 [(0,g),(5,g),(6,.i ((f.length:Int))),(7,.i c)] h∧AO w wl∧EX n f (fun c=>(some true)) b c=some i) n ?_ ?_
 ·intro h d;exact⟨0,d.sub z,AO.refl _,a⟩
 ·rintro b h x ⟨c,d,e,a⟩;refine Dj d ?_;rcases b with _|b;exact Dp a;rw [EX.eq_2]at a;have y:=e.size;refine Rc 6 (Wf a e ?_);intro a;refine Rc 7 (Il a (j.oj e) GF IV Gh ?_);rintro A a _;refine Ro 7 (Cs a e NK (fun _=>QF) ?_);rintro B a C o ⟨k,D⟩;refine Ro 2 (Jy 6 [0,5,6,7] 21 15 a ?_ ?_)
  ·intro p a;have⟨E,q,a⟩:=AM a;refine Ro 2 (Ye z (Fb (c:=CT) z GF IV z z (j.oj k) q) ?_);rintro F r;refine Ro 1 (Cs a k Oj (fun _ s=>(Rp s (by omega) r:)) ?_);rintro G a I t ⟨J,K⟩;cases BV a;exact Ro 1 (DW t)
  intro p a;intro L l;have⟨u,M⟩:=Et k l;refine Ro 2 (Wt a u ?_);intro a;refine Rc 8 ?_;intro h d;exact⟨b,nr,(wrap .i64 (c+1)),d.sub z,(AO.trans (AO.trans e o) l),a⟩
def Dr(n:Nat)(a0:List Ad)(k0:(List ByteArray)->Int->Option Bool):Nat->(List ByteArray)->Int->Option Bool
 |0,_,_=>none
 |m+1,f,b=>cond (decide (b<(a0.length:Int))) ((AS a0 b).bind fun a=>(Cf f [a.Name] 16).bind fun c=>cond (b==(wrap .i64 (((a0.length:Int))-1))) (cond (((((a.Dir !=2))||((a.Cap !=0))))||a.Clock) (some false) (Dr n a0 k0 m c (wrap .i64 (b+1)))) ((cond (a.Dir !=1) (some true) ((HV n a.Cap 0 500).bind fun e=>some (!e))).bind fun d=>cond d (some false) (Dr n a0 k0 m c (wrap .i64 (b+1))))) (k0 f b)
def Ox(n:Nat)(a0:List Ad):Option Bool:=Dr n a0 (fun e f=>(HQ n a0).bind fun a=>(HV n a 2 5).bind fun d=>(cond d ((PC n e).bind fun b=>some b) (some false)).bind fun c=>some c) n (([]:List ByteArray)) 0
theorem Ti{l:List Ad}{s:Bool}{m:Value}(a:Ox n l=some s)(hH:H<=w.heap.size)(o:BF C_Pin w H l m):
 Calls prog 30 [m].toArray w (BO (.bool s) w):=by
 have x:=AO.refl w;unfold Ox at a;refine AF func30 z ntmps30 (Rc 14 (Yl z (FJ z Br (o.oj x)) (Ro 4 ?_)));have L:AC CT w (w.heap.size) (Iv 0 0) 9 [] (.slice none 0 0):=AC.nil _ _ _ _ _;have M:Bd (Value.slice none 0 0) w.heap.size w.heap.size:=OA;have⟨N,O,a⟩:=RQ a;refine WC.loopD (fun g h wl=>∃(t:List ByteArray) (p:Value) (i:Int),Kn 52 [(0,m),(3,p),(6,m),(7,.i ((l.length:Int))),(8,.i i)] h∧AO w wl∧w.heap.size<=wl.heap.size∧AC CT wl (w.heap.size) (Iv 0 0) 9 t p∧Bd p w.heap.size wl.heap.size∧Dr n l N g t i=some s) n ?_ ?_
 ·intro h e;exact⟨(([]:List ByteArray)),((.slice none 0 0)),0,e.sub z,x,nr,L,(fun j hg=>by have:=M j hg;omega),a⟩
 ·rintro g h f0 ⟨t,p,i,e,q,g0,b,r,a⟩;refine Dj e ?_;rcases g with _|g;exact Dp a;rw [Dr.eq_2]at a;refine Rc 6 (Wc z a ?_ ?_)
  ·intro a;refine Rc 7 (Ix a (o.oj q) Br Bq ?_);rintro d h0 a _ ⟨i0,j0,k0,rfl,l0,P,Q⟩;obtain rfl:=Az P;refine Yl z (Jr (us:=[.string d.Name,.i d.Dir,.i d.Cap,.bool d.Clock]) z Iu Q Bq) (Ef z (AZ z FU) ?_);rintro _ m0 ⟨n0,rfl,o0,p0,y,c⟩;have⟨R,q0⟩:=Et q y;have b:=b.ext y;refine Ro 1 (Ef z (Bm z c Bq z z) ?_);rintro _ r0 ⟨A,S⟩;have⟨T,s0⟩:=Eu R A;have b:=Sq (AH b r) A;have c:=S;refine Ro 5 (Fl Ex Gh c (Ef z (Au CT [d.Name] [[.string d.Name]] z GF Ll z z ⟨z,trivial⟩) ?_));rintro t0 u0 ⟨v0,B,w0,x0,C,U⟩;have⟨V,y0⟩:=Et T C;have⟨c,b⟩:=DO c b C;have z0:=BM B;clear B;have⟨D,W,a⟩:=AM a;refine Ef z (BY (c:=CT) z GF Ll z z z z z b (by omega) (AC.slf U nr nr) W) ?_;rintro E A0 ⟨f,u⟩;have⟨k,B0⟩:=Ge V u r;have c:=Aj.box u c (Nb.of r);have F:=KM u f r;refine Ro 7 (Yl z (FJ z Br (o.oj k)) (Ro 4 (Wc z a ?_ ?_)))
   ·intro a;refine Rc 2 (Fl Fm Ac c (Ro 2 (Nd 4 [0,3,5,6,7,8] 30 26 ((d.Cap !=0)) z ?_ ?_)))
    ·exact Fl EG Ac c (Ro 2 (Dc))
    refine Ro 1 (Nd 3 [0,3,6,7,8] 34 31 d.Clock z ?_ ?_)
    ·exact Fl Bu Fk c (Ro 1 (Dc))
    refine Ro 2 (Wt a k ?_);intro a;refine Rc 8 ?_;intro h e;exact⟨g,nr,D,E,(wrap .i64 (i+1)),e.sub z,k,(by omega),f,(fun j hg=>by have:=F j hg;omega),a⟩
   ·intro a;refine Rc 2 (Fl Fm Ac c (Ro 2 (Jy 5 [0,3,6,7,8] 43 38 a ?_ ?_)))
    ·intro X a;refine Fl EG Ac c ?_;refine Cs a k Es (fun _=>Lx) ?_;rintro C0 a D0 G ⟨E0,F0⟩;have f:=f.ext G;cases BV a;exact Ro 1 (Ro 1 (DW G))
    intro X a;intro G0 I;have⟨J,H0⟩:=Et k I;have f:=f.ext I;refine Ro 2 (Wt a J ?_);intro a;refine Rc 8 ?_;intro h e;exact⟨g,nr,D,E,(wrap .i64 (i+1)),e.sub z,J,(by omega),f,(fun j hg=>by have:=F j hg;omega),a⟩
  ·intro a;refine Rc 3 ?_
   subst O
   refine Re 5 ?_;refine Cs a q NJ (fun _ v=>(Pj v (by omega) (o.oj q):)) ?_;rintro I0 a J0 Y ⟨Z,K0⟩;have b:=b.ext Y;refine Cs a Z Es (fun _=>Lx) ?_;rintro L0 a M0 a0 ⟨K,N0⟩;have b:=b.ext a0;refine Ro 1 (Fe 3 [] 51 48 a ?_ ?_)
   ·intro b0 a;refine Ro 1 (Cs a K OV (fun _ v=>(Tl v nr (AC.slf b (Nat.zero_le _) nr):)) ?_);rintro O0 a P0 c0 ⟨Q0,R0⟩;cases BV a;exact Ro 1 (DW c0)
   intro b0 a;intro S0 d0;have⟨e0,T0⟩:=Et K d0;exact DF a e0
def Km(n:Nat)(a0:AE):Option Int:=(HQ n a0.Pins).bind fun a=>some (wrap .i64 (a-1))
theorem Qf{a:AE}{d:Int}{e f g:Value}(b:Km n a=some d)(l:H<=w.heap.size)(h:BF C_Pin w H a.Pins e)(m:BF C_Arc w H a.Arcs f)(o:BF (AI .i64) w H a.Truth g):
 Calls prog 23 [.agg #[.string a.Name,.i a.Kind,e,f,g,.i a.Leak,.i a.Energy]].toArray w (BO (.i d) w):=by
 unfold Km at b;refine AF func23 z ntmps23 (Rc 2 (Ef z (Ak z z) ?_));rintro _ p ⟨q,rfl,r,s,c,i⟩;have t:=c.size;refine Ro 5 (Fl BK By i ?_);refine Cs b c NJ (fun _ j=>(Pj j (by omega) (h.oj c):)) ?_;rintro u b v x ⟨k,y⟩;exact DF b k
def IF(n:Nat)(a0:AE)(a1:Int):Option Bool:=(Km n a0).bind fun b=>(HV n a1 0 (wrap .i64 (b-1))).bind fun a=>some a
theorem Lu{a:AE}{d:Int}{e:Bool}{f g h:Value}(b:IF n a d=some e)(q:H<=w.heap.size)(i:BF C_Pin w H a.Pins f)(j:BF C_Arc w H a.Arcs g)(k:BF (AI .i64) w H a.Truth h):
 Calls prog 17 [.agg #[.string a.Name,.i a.Kind,f,g,h,.i a.Leak,.i a.Energy],.i d].toArray w (BO (.bool e) w):=by
 unfold IF at b;refine AF func17 z ntmps17 (Rc 2 (Ef z (Ak z z) ?_));rintro _ r ⟨s,rfl,t,u,c,l⟩;have v:=c.size;refine Ro 6 (Yl z (Bb z AU l AK) ?_);refine Cs b c JD (fun _ m=>(Qf m (by omega) (i.oj c) (j.oj c) (k.oj c):)) ?_;rintro x b y A ⟨o,B⟩;refine Ro 1 (Cs b o Es (fun _=>Lx) ?_);rintro C b D E ⟨p,F⟩;exact DF b p
def Mc(n:Nat)(a0:Int):Option Bool:=some ((((a0==4))||((a0==5))))
theorem Rf{a:Int}{b:Bool}(c:Mc n a=some b):
 Calls prog 65 [.i a].toArray w (BO (.bool b) w):=by
 have d:=AO.refl w;unfold Mc at c;refine AF func65 z ntmps65 (Rc 10 (Qg 3 [] 8 5 ?_));exact DF c d
def MW(n:Nat)(a0:Int)(a1:Int)(a2:Int):Option Bool:=(HV n a0 a1 a2).bind fun a=>some (!a)
theorem Qw{b c d:Int}{e:Bool}{f g:Nat}(a:MW n b c d=some e)(h:Ap w f [.i c] 2)(i:Ap w g [.i d] 2):
 Calls prog 43 [.i b,.p f,.p g].toArray w (BO (.bool e) w):=by
 have H:=AO.refl w;have:=Ap.lt h;have:=Ap.lt i;unfold MW at a;refine AF func43 z ntmps43 (Rc 8 (Yl z (EO z Ac h z) (Yl z (EO z Ac i z) ?_)));refine Cs a H Es (fun _=>Lx) ?_;rintro k a l m ⟨j,o⟩;exact DF a j
def Dh(n:Nat)(a0:List Int)(a1c0:Int)(a1c1:Int)(k0:Int->Option Int):Nat->Int->Option Int
 |0,_=>none
 |m+1,a=>cond (decide (a<(a0.length:Int))) ((AS a0 a).bind fun b=>(MW n b a1c0 a1c1).bind fun c=>cond c (some a) (Dh n a0 a1c0 a1c1 k0 m (wrap .i64 (a+1)))) (k0 a)
def QY(n:Nat)(a0:List Int)(a1c0:Int)(a1c1:Int):Option Int:=Dh n a0 a1c0 a1c1 (fun a=>some (-1)) n 0
theorem Sg{f:List Int}{j k l:Int}{m:Value}{o p:Nat}(a:QY n f j k=some l)(v:H<=w.heap.size)(q:BF (AI .i64) w H f m)(g:Ap w o [.i j] 2)(h:Ap w p [.i k] 2):
 Calls prog 54 [m,.func (.func 43) #[] [.p o,.p p].toArray].toArray w (BO (.i l) w):=by
 have s:=AO.refl w;have:=Ap.lt g;have:=Ap.lt h;unfold QY at a;refine AF func54 z ntmps54 (Rc 9 (Yl z (FJ z Ab (q.oj s)) (Ro 4 ?_)));refine WC.loopD (fun c i wl=>∃d:Int,Kn 19 [(0,m),(1,.func (.func 43) #[] [.p o,.p p].toArray),(7,.i ((f.length:Int))),(8,.i d)] i∧AO w wl∧Dh n f j k (fun d=>(some (-1))) c d=some l) n ?_ ?_
 ·intro i e;exact⟨0,e.sub z,AO.refl _,a⟩
 ·rintro c i x ⟨d,e,b,a⟩;refine Dj e ?_;rcases c with _|c;exact Dp a;rw [Dh.eq_2]at a;have y:=b.size;have⟨g,h⟩:=DO g h b;refine Rc 6 (Wf a b ?_);intro a;refine Rc 15 (Il a (q.oj b) Ab As Ac ?_);rintro A a _;have⟨B,t,a⟩:=AM a;refine Ef z (DK z Oh z z (Qw t g h:)) ?_;rintro _ C ⟨rfl,r⟩;have⟨u,D⟩:=Et b r;refine Ro 2 (Wt a u ?_);intro a;refine Rc 8 ?_;intro i e;exact⟨c,nr,(wrap .i64 (d+1)),e.sub z,(AO.trans b r),a⟩
def Mf(n:Nat)(a0:List Int)(a1c0:Int)(a1c1:Int):Option Bool:=(QY n a0 a1c0 a1c1).bind fun a=>some (decide (a>=0))
theorem Qv{b:List Int}{c d:Int}{e:Bool}{f:Value}{g h:Nat}(a:Mf n b c d=some e)(p:H<=w.heap.size)(l:BF (AI .i64) w H b f)(i:Ap w g [.i c] 2)(j:Ap w h [.i d] 2):
 Calls prog 42 [f,.func (.func 43) #[] [.p g,.p h].toArray].toArray w (BO (.bool e) w):=by
 have k:=AO.refl w;have:=Ap.lt i;have:=Ap.lt j;unfold Mf at a;refine AF func42 z ntmps42 (Rc 9 (Cs a k PA (fun _ m=>(Sg m (by omega) (l.oj k) i j:)) ?_));rintro q a r s ⟨o,t⟩;exact DF a o
def HY(n:Nat)(a0:List Int)(a1:Int)(a2:Int):Option Bool:=(Mf n a0 a1 a2).bind fun a=>some (!a)
theorem Lr{c:List Int}{d e:Int}{f:Bool}{g:Value}(a:HY n c d e=some f)(p:H<=w.heap.size)(k:BF (AI .i64) w H c g):
 Calls prog 24 [g,.i d,.i e].toArray w (BO (.bool f) w):=by
 unfold HY at a;refine AF func24 z ntmps24 (Rc 2 (Ef z (Ak z z) ?_));rintro _ q ⟨r,rfl,s,t,h,b⟩;have u:=h.size;refine Ef z (Ak z z) ?_;rintro _ v ⟨x,rfl,y,A,i,l⟩;have⟨j,B⟩:=Et h i;have b:=b.ext i;refine Ro 6 (Yl z (Ci z z z) ?_);refine Cs a j PJ (fun _ m=>(Qv m (by omega) (k.oj j) b l:)) ?_;rintro C a D E ⟨o,F⟩;exact DF a o
def Jw(n:Nat)(a0:List Int):Option Int:=some ((a0.length:Int))
theorem PZ{a:List Int}{b:Int}{c:Value}(d:Jw n a=some b)(g:H<=w.heap.size)(f:BF (AI .i64) w H a c):
 Calls prog 22 [c].toArray w (BO (.i b) w):=by
 have e:=AO.refl w;unfold Jw at d;exact AF func22 z ntmps22 (Rc 8 (Yl z (FJ z Ab (f.oj e)) (DF d e)))
def Ec(a0:List Int)(k0:Int->Option Bool):Nat->Int->Option Bool
 |0,_=>none
 |m+1,a=>cond (decide (a<(a0.length:Int))) ((AS a0 (wrap .i64 (a-1))).bind fun c=>(AS a0 a).bind fun b=>cond (decide (c>=b)) (some false) (Ec a0 k0 m (wrap .i64 (a+1)))) (k0 a)
def Ph(n:Nat)(a0:List Int):Option Bool:=Ec a0 (fun a=>some true) n 1
theorem TV{g:List Int}{h:Bool}{i:Value}(a:Ph n g=some h)(m:H<=w.heap.size)(j:BF (AI .i64) w H g i):
 Calls prog 93 [i].toArray w (BO (.bool h) w):=by
 unfold Ph at a;refine AF func93 z ntmps93 (Rc 12 (WC.loopD (fun c f wl=>∃d:Int,Kn 20 [(0,i),(3,.i d)] f∧AO w wl∧Ec g (fun d=>(some true)) c d=some h) n ?_ ?_))
 ·intro f e;exact⟨1,e.sub z,AO.refl _,a⟩
 ·rintro c f o ⟨d,e,b,a⟩;refine Dj e ?_;rcases c with _|c;exact Dp a;rw [Ec.eq_2]at a;have p:=b.size;refine Rc 5 (Yl z (FJ z Ab (j.oj b)) (Ro 3 (Wf a b ?_)));intro a;refine Rc 5 (BZ Tryd.hm (Qr 3 (JL a (j.oj b) Ab As Ac ?_)));rintro q a _;refine Qr 2 (JL a (j.oj b) Ab As Ac ?_);rintro r a _;refine Qr 1 ?_;refine QL.done fun s k=>?_;have⟨l,t⟩:=Et b k;refine Re 1 (Wt a l ?_);intro a;refine Rc 9 ?_;intro f e;exact⟨c,nr,(wrap .i64 (d+1)),e.sub z,(AO.trans b k),a⟩
def Jn(n:Nat)(a0:List Int):Option Bool:=(Jw n a0).bind fun e=>(HV n e 1 4).bind fun f=>(cond f ((HY n a0 0 100000).bind fun a=>some a) (some false)).bind fun d=>(cond d ((Ph n a0).bind fun b=>some b) (some false)).bind fun c=>some c
theorem OZ{f:List Int}{g:Bool}{h:Value}(a:Jn n f=some g)(s:H<=w.heap.size)(c:BF (AI .i64) w H f h):
 Calls prog 88 [h].toArray w (BO (.bool g) w):=by
 have i:=AO.refl w;unfold Jn at a;refine AF func88 z ntmps88 (Rc 8 (Cs a i Mo (fun _ b=>(PZ b (by omega) (c.oj i):)) ?_));rintro t a u v ⟨j,x⟩;refine Cs a j Es (fun _=>Lx) ?_;rintro y a A B ⟨d,C⟩;refine Ro 1 (Fe 3 [0] 9 6 a ?_ ?_)
 ·intro k a;refine Ro 1 (Cs a d JB (fun _ b=>(Lr b (by omega) (c.oj d):)) ?_);rintro D a E l ⟨F,G⟩;cases BV a;exact Ro 1 (DW l)
 intro k a;intro I m;have⟨e,J⟩:=Et d m;refine Ro 1 (Fe 3 [] 13 10 a ?_ ?_)
 ·intro o a;refine Ro 1 (Cs a e Pu (fun _ b=>(TV b (by omega) (c.oj e):)) ?_);rintro K a L p ⟨M,N⟩;cases BV a;exact Ro 1 (DW p)
 intro o a;intro O q;have⟨r,P⟩:=Et e q;exact DF a r
def Kp(n:Nat)(a0:AQ):Option Bool:=(Jn n a0.Slews).bind fun a=>(cond a ((Jn n a0.Loads).bind fun d=>some d) (some false)).bind fun b=>(cond (b&&((((a0.Values.length:Int))==(wrap .i64 (((a0.Slews.length:Int))*((a0.Loads.length:Int))))))) ((HY n a0.Values (-1000000) 1000000).bind fun e=>some e) (some false)).bind fun c=>some c
theorem SB{c:AQ}{h:Bool}{i j k:Value}(a:Kp n c=some h)(y:H<=w.heap.size)(l:BF (AI .i64) w H c.Slews i)(m:BF (AI .i64) w H c.Loads j)(o:BF (AI .i64) w H c.Values k):
 Calls prog 79 [.agg #[i,j,k]].toArray w (BO (.bool h) w):=by
 unfold Kp at a;refine AF func79 z ntmps79 (Rc 2 (Ef z (Ak z z) ?_));rintro _ A ⟨B,rfl,C,D,f,b⟩;have E:=f.size;refine Ro 5 (Fl Ez At b ?_);refine Cs a f Mm (fun _ e=>(OZ e (by omega) (l.oj f):)) ?_;rintro F a G r ⟨g,I⟩;have b:=b.ext r;refine Ro 1 (Fe 4 [1] 10 6 a ?_ ?_)
 ·intro s a;refine Fl Da At b ?_;refine Cs a g Mm (fun _ e=>(OZ e (by omega) (m.oj g):)) ?_;rintro J a K p ⟨L,M⟩;have b:=b.ext p;cases BV a;exact Ro 1 (DW p)
 intro s a;intro N q;have⟨d,O⟩:=Et g q;have b:=b.ext q;refine Ro 1 (Hi 12 [1] 23 11 ((((c.Values.length:Int))==(wrap .i64 (((c.Slews.length:Int))*((c.Loads.length:Int)))))) z ?_ ?_)
 ·exact FQ BT At b Ab (o.oj d) (FQ Ez At b Ab (l.oj d) (FQ Da At b Ab (m.oj d) (Ro 3 (Dc))))
 refine Ro 1 (Fe 4 [] 28 24 a ?_ ?_)
 ·intro t a;refine Fl BT At b ?_;refine Cs a d JB (fun _ e=>(Lr e (by omega) (o.oj d):)) ?_;rintro P a Q u ⟨R,S⟩;cases BV a;exact Ro 1 (DW u)
 intro t a;intro T v;have⟨x,U⟩:=Et d v;exact DF a x
def Je(n:Nat)(a0:AQ)(a1:Bool):Option Bool:=(Kp n a0).bind fun b=>(cond (!b) (some true) ((cond a1 ((Of n a0.Values).bind fun c=>some (decide (c<0))) (some false)).bind fun a=>some a)).bind fun a=>some a
theorem RN{d:AQ}{h i:Bool}{j k l:Value}{m:Nat}(a:Je n d h=some i)(A:H<=w.heap.size)(q:BF (AI .i64) w H d.Slews j)(r:BF (AI .i64) w H d.Loads k)(o:BF (AI .i64) w H d.Values l)(b:Ap w m [.bool h] 4):
 Calls prog 78 [.agg #[j,k,l],.p m].toArray w (BO (.bool i) w):=by
 have:=Ap.lt b;unfold Je at a;refine AF func78 z ntmps78 (Rc 2 (Ef z (Ak z z) ?_));rintro _ B ⟨C,rfl,D,E,c,e⟩;have F:=c.size;have b:=b.ext c;refine Ro 5 (Yl z (Bb z Bp e BL) ?_);refine Cs a c QG (fun _ g=>(SB g (by omega) (q.oj c) (r.oj c) (o.oj c):)) ?_;rintro G a I s ⟨f,J⟩;have⟨b,e⟩:=DO b e s;refine Ro 2 (Jy 8 [] 15 7 a ?_ ?_)
 ·intro t a;refine Yl z (EO z Fk b z) (Ro 1 (Fe 5 [7] 14 9 a ?_ ?_))
  ·intro u a;refine Fl BT At e ?_;refine Cs a f PE (fun _ g=>(TA g (by omega) (o.oj f):)) ?_;rintro K a L v ⟨M,N⟩;cases BV a;exact Ro 1 (Ro 1 (DW v))
  intro u a;intro O p;have⟨P,Q⟩:=Et f p;cases BV a;exact Ro 1 (DW p)
 intro t a;intro R x;have⟨y,S⟩:=Et f x;exact DF a y
def Df(n:Nat)(a0:List AQ)(a1c0:Bool)(k0:Int->Option Int):Nat->Int->Option Int
 |0,_=>none
 |m+1,a=>cond (decide (a<(a0.length:Int))) ((AS a0 a).bind fun c=>(Je n c a1c0).bind fun b=>cond b (some a) (Df n a0 a1c0 k0 m (wrap .i64 (a+1)))) (k0 a)
def QP(n:Nat)(a0:List AQ)(a1c0:Bool):Option Int:=Df n a0 a1c0 (fun a=>some (-1)) n 0
theorem TO{f:List AQ}{i:Bool}{j:Int}{k:Value}{l:Nat}(a:QP n f i=some j)(C:H<=w.heap.size)(m:BF C_Table w H f k)(g:Ap w l [.bool i] 4):
 Calls prog 87 [k,.func (.func 78) #[] [.p l].toArray].toArray w (BO (.i j) w):=by
 have p:=AO.refl w;have:=Ap.lt g;unfold QP at a;refine AF func87 z ntmps87 (Rc 9 (Yl z (FJ z HM (m.oj p)) (Ro 4 ?_)));refine WC.loopD (fun c h wl=>∃d:Int,Kn 19 [(0,k),(1,.func (.func 78) #[] [.p l].toArray),(7,.i ((f.length:Int))),(8,.i d)] h∧AO w wl∧Df n f i (fun d=>(some (-1))) c d=some j) n ?_ ?_
 ·intro h e;exact⟨0,e.sub z,AO.refl _,a⟩
 ·rintro c h D ⟨d,e,b,a⟩;refine Dj e ?_;rcases c with _|c;exact Dp a;rw [Df.eq_2]at a;have E:=b.size;have g:=g.ext b;refine Rc 6 (Wf a b ?_);intro a;refine Rc 15 (Ix a (m.oj b) HM BL ?_);rintro F G a _ ⟨I,J,K,rfl,L,q,r⟩;obtain⟨s,t,u,rfl,v,x,y⟩:=DZ q;refine Yl z (Jr (us:=[s,t,u]) z Bp r BL) ?_;have⟨M,A,a⟩:=AM a;refine Ef z (DK z OX z z (RN A (by omega) v x y g:)) ?_;rintro _ N ⟨rfl,o⟩;have⟨B,O⟩:=Et b o;refine Ro 2 (Wt a B ?_);intro a;refine Rc 8 ?_;intro h e;exact⟨c,nr,(wrap .i64 (d+1)),e.sub z,(AO.trans b o),a⟩
def MT(n:Nat)(a0:List AQ)(a1c0:Bool):Option Bool:=(QP n a0 a1c0).bind fun a=>some (decide (a>=0))
theorem RU{b:List AQ}{c d:Bool}{e:Value}{f:Nat}(a:MT n b c=some d)(l:H<=w.heap.size)(i:BF C_Table w H b e)(g:Ap w f [.bool c] 4):
 Calls prog 77 [e,.func (.func 78) #[] [.p f].toArray].toArray w (BO (.bool d) w):=by
 have h:=AO.refl w;have:=Ap.lt g;unfold MT at a;refine AF func77 z ntmps77 (Rc 9 (Cs a h QB (fun _ j=>(TO j (by omega) (i.oj h) g:)) ?_));rintro m a o p ⟨k,q⟩;exact DF a k
def In(n:Nat)(a0:List AQ)(a1:Bool):Option Bool:=(cond (((a0.length:Int))==2) ((MT n a0 a1).bind fun b=>some (!b)) (some false)).bind fun a=>some a
theorem NT{c:List AQ}{d e:Bool}{f:Value}(a:In n c d=some e)(o:H<=w.heap.size)(g:BF C_Table w H c f):
 Calls prog 66 [f,.bool d].toArray w (BO (.bool e) w):=by
 unfold In at a;refine AF func66 z ntmps66 (Rc 2 (Ef z (Ak z z) ?_));rintro _ p ⟨q,rfl,r,s,b,h⟩;have t:=b.size;refine Ro 6 (Yl z (FJ z HM (g.oj b)) (Ro 2 (Fe 5 [] 13 8 a ?_ ?_)))
 ·intro i a;refine Ro 1 (Yl z (Ci z z z) ?_);refine Cs a b PU (fun _ j=>(RU j (by omega) (g.oj b) h:)) ?_;rintro u a v k ⟨x,y⟩;cases BV a;exact Ro 1 (Ro 1 (DW k))
 intro i a;intro A l;have⟨m,B⟩:=Et b l;exact DF a m
def Ky(n:Nat)(a0:Ad):Option Bool:=some a0.Clock
theorem Rj{a:Ad}{b:Bool}(c:Ky n a=some b):
 Calls prog 82 [.agg #[.string a.Name,.i a.Dir,.i a.Cap,.bool a.Clock]].toArray w (BO (.bool b) w):=by
 unfold Ky at c;refine AF func82 z ntmps82 (Rc 2 (Ef z (Ak z z) ?_));rintro _ f ⟨g,rfl,h,i,d,e⟩;have H:=d.size;exact Ro 5 (Fl Bu Fk e (DF c d))
def Dm(n:Nat)(a0:List Ad)(k0:Int->Option Int):Nat->Int->Option Int
 |0,_=>none
 |m+1,a=>cond (decide (a<(a0.length:Int))) ((AS a0 a).bind fun c=>(Ky n c).bind fun b=>cond b (some a) (Dm n a0 k0 m (wrap .i64 (a+1)))) (k0 a)
def QV(n:Nat)(a0:List Ad):Option Int:=Dm n a0 (fun a=>some (-1)) n 0
theorem Ta{f:List Ad}{i:Int}{j:Value}(a:QV n f=some i)(s:H<=w.heap.size)(k:BF C_Pin w H f j):
 Calls prog 81 [j,.func (.func 82) #[] #[]].toArray w (BO (.i i) w):=by
 have m:=AO.refl w;unfold QV at a;refine AF func81 z ntmps81 (Rc 9 (Yl z (FJ z Br (k.oj m)) (Ro 4 ?_)));refine WC.loopD (fun b g wl=>∃c:Int,Kn 19 [(0,j),(1,.func (.func 82) #[] #[]),(7,.i ((f.length:Int))),(8,.i c)] g∧AO w wl∧Dm n f (fun c=>(some (-1))) b c=some i) n ?_ ?_
 ·intro g d;exact⟨0,d.sub z,AO.refl _,a⟩
 ·rintro b g t ⟨c,d,e,a⟩;refine Dj d ?_;rcases b with _|b;exact Dp a;rw [Dm.eq_2]at a;have u:=e.size;refine Rc 6 (Wf a e ?_);intro a;refine Rc 15 (Ix a (k.oj e) Br Bq ?_);rintro h v a _ ⟨x,y,A,rfl,B,o,p⟩;obtain rfl:=Az o;refine Yl z (Jr (us:=[.string h.Name,.i h.Dir,.i h.Cap,.bool h.Clock]) z Iu p Bq) ?_;have⟨C,q,a⟩:=AM a;refine Ef z (DK z PF z z (Rj q:)) ?_;rintro _ D ⟨rfl,l⟩;have⟨r,E⟩:=Et e l;refine Ro 2 (Wt a r ?_);intro a;refine Rc 8 ?_;intro g d;exact⟨b,nr,(wrap .i64 (c+1)),d.sub z,(AO.trans e l),a⟩
def Ib(n:Nat)(a0:AE):Option Int:=(QV n a0.Pins).bind fun a=>some a
theorem RF{a:AE}{d:Int}{e f g:Value}(b:Ib n a=some d)(l:H<=w.heap.size)(h:BF C_Pin w H a.Pins e)(m:BF C_Arc w H a.Arcs f)(o:BF (AI .i64) w H a.Truth g):
 Calls prog 67 [.agg #[.string a.Name,.i a.Kind,e,f,g,.i a.Leak,.i a.Energy]].toArray w (BO (.i d) w):=by
 unfold Ib at b;refine AF func67 z ntmps67 (Rc 2 (Ef z (Ak z z) ?_));rintro _ p ⟨q,rfl,r,s,c,i⟩;have t:=c.size;refine Ro 5 (Fl BK By i ?_);refine Cs b c Pc (fun _ j=>(Ta j (by omega) (h.oj c):)) ?_;rintro u b v x ⟨k,y⟩;exact DF b k
def LR(n:Nat)(a0:AE)(a1:Ah):Option Bool:=(Mc n a1.Kind).bind fun j=>cond j ((cond (((a1.Sense==0))&&((((a1.Slew.length:Int))==0))) ((In n a1.Delay false).bind fun b=>some b) (some false)).bind fun f=>(cond f ((Ib n a0).bind fun c=>some ((a1.From==c))) (some false)).bind fun d=>(cond (d&&(decide (a1.From>=0))) ((IF n a0 a1.To).bind fun l=>some l) (some false)).bind fun s=>some ((s&&((a1.To !=a1.From))))) ((In n a1.Delay true).bind fun g=>(cond (!g) (some true) ((In n a1.Slew true).bind fun o=>some (!o))).bind fun h=>(cond h (some true) ((Km n a0).bind fun p=>some ((a1.To !=p)))).bind fun t=>(cond t (some true) ((IF n a0 a1.From).bind fun i=>some (!i))).bind fun r=>cond r (some false) (cond (a1.Kind==1) ((AS a0.Pins a1.From).bind fun k=>(cond (!k.Clock) ((HV n a1.Sense 1 3).bind fun u=>some u) (some false)).bind fun e=>some e) (cond (a1.Kind==2) (cond (a1.Kind==2) ((AS a0.Pins a1.From).bind fun v=>some ((v.Clock&&((a1.Sense==0))))) (some false)) (cond (a1.Kind==3) ((AS a0.Pins a1.From).bind fun a=>some ((a.Clock&&((a1.Sense==0))))) (some false)))))
theorem RS{h:AE}{f:Ah}{l:Bool}{m o p q r:Value}(a:LR n h f=some l)(e:H<=w.heap.size)(i:BF C_Pin w H h.Pins m)(j:BF C_Arc w H h.Arcs o)(k:BF (AI .i64) w H h.Truth p)(s:BF C_Table w H f.Delay q)(t:BF C_Table w H f.Slew r):
 Calls prog 49 [.agg #[.string h.Name,.i h.Kind,m,o,p,.i h.Leak,.i h.Energy],.agg #[.i f.Kind,.i f.From,.i f.To,.i f.Sense,q,r]].toArray w (BO (.bool l) w):=by
 unfold LR at a;refine AF func49 z ntmps49 (Rc 2 (Ef z (Ak z z) ?_));rintro _ b0 ⟨c0,rfl,d0,e0,u,c⟩;have f0:=u.size;refine Ef z (Ak z z) ?_;rintro _ g0 ⟨h0,rfl,i0,j0,v,b⟩;have⟨C,k0⟩:=Et u v;have c:=c.ext v;refine Ro 6 (Fl CV Ac b ?_);refine Cs a C PR (fun _=>Rf) ?_;rintro l0 a m0 D ⟨d,n0⟩;have⟨c,b⟩:=DO c b D;refine Ro 2 (Wc z a ?_ ?_)
 ·intro a;refine Rc 1 (BZ Tryd.hm (Fq DA Ac b (Qr 2 (Ks 5 [2,3] 16 11 ((((f.Slew.length:Int))==0)) z ?_ ?_))))
  ·exact KA Er Ds b HM (t.oj d) (Qr 2 FS)
  refine Qr 1 (Ei 4 [2,3] 21 17 a ?_ ?_)
  ·intro E a;refine Fq EH Ds b ?_;have⟨o0,F,a⟩:=AM a;refine Ql z (Gx z Ke fun w' hw'=>(NT F (Nat.le_trans (by omega) (hw').size) (s.oh e (AO.trans d hw')):)) ?_;cases BV a;exact Qr 1 FS
  intro E a;refine Qr 1 (Ei 6 [2,3] 28 22 a ?_ ?_)
  ·intro G a;refine Fq Bo Ac b (Qy z (Bb z AU c AK) ?_);have⟨p0,I,a⟩:=AM a;refine Ql z (Gx z OY fun w' hw'=>(RF I (Nat.le_trans (by omega) (hw').size) (i.oh e (AO.trans d hw')) (j.oh e (AO.trans d hw')) (k.oh e (AO.trans d hw')):)) ?_;refine Qr 1 ?_;cases BV a;exact Qr 1 FS
  intro G a;refine Qr 1 (Ks 4 [2,3] 33 29 (decide (f.From>=0)) z ?_ ?_)
  ·exact Fq Bo Ac b (Qr 2 FS)
  refine Qr 1 (Ei 5 [3] 39 34 a ?_ ?_)
  ·intro J a;refine Qy z (Bb z AU c AK) (Fq Bv Ac b ?_);have⟨q0,K,a⟩:=AM a;refine Ql z (Gx z Iw fun w' hw'=>(Lu K (Nat.le_trans (by omega) (hw').size) (i.oh e (AO.trans d hw')) (j.oh e (AO.trans d hw')) (k.oh e (AO.trans d hw')):)) ?_;cases BV a;exact Qr 1 FS
  intro J a;refine Qr 1 (Ks 6 [] 46 40 ((f.To !=f.From)) z ?_ ?_)
  ·exact Fq Bv Ac b (Fq Bo Ac b (Qr 2 FS))
  refine Qr 1 ?_;refine QL.done fun r0 x=>?_;have⟨L,s0⟩:=Et d x;have⟨c,b⟩:=DO c b x;exact Qd a L
 ·intro a;refine Rc 4 (BZ Tryd.hm (Fq EH Ds b ?_));have⟨t0,M,a⟩:=AM a;refine Ql z (Gx z Ke fun w' hw'=>(NT M (Nat.le_trans (by omega) (hw').size) (s.oh e (AO.trans d hw')):)) ?_;refine Qr 2 (Ig 5 [2,3] 56 51 a ?_ ?_)
  ·intro N a;refine Fq Er Ds b ?_;have⟨u0,O,a⟩:=AM a;refine Ql z (Gx z Ke fun w' hw'=>(NT O (Nat.le_trans (by omega) (hw').size) (t.oh e (AO.trans d hw')):)) ?_;refine Qr 1 ?_;cases BV a;exact Qr 1 FS
  intro N a;refine Qr 1 (Ig 6 [2,3] 63 57 a ?_ ?_)
  ·intro P a;refine Fq Bv Ac b (Qy z (Bb z AU c AK) ?_);have⟨v0,Q,a⟩:=AM a;refine Ql z (Gx z JD fun w' hw'=>(Qf Q (Nat.le_trans (by omega) (hw').size) (i.oh e (AO.trans d hw')) (j.oh e (AO.trans d hw')) (k.oh e (AO.trans d hw')):)) ?_;refine Qr 1 ?_;cases BV a;exact Qr 1 FS
  intro P a;refine Qr 1 (Ig 6 [2,3] 70 64 a ?_ ?_)
  ·intro R a;refine Qy z (Bb z AU c AK) (Fq Bo Ac b ?_);have⟨w0,S,a⟩:=AM a;refine Ql z (Gx z Iw fun w' hw'=>(Lu S (Nat.le_trans (by omega) (hw').size) (i.oh e (AO.trans d hw')) (j.oh e (AO.trans d hw')) (k.oh e (AO.trans d hw')):)) ?_;refine Qr 1 ?_;cases BV a;exact Qr 1 FS
  intro R a;refine QL.done fun x0 y=>?_;have⟨g,y0⟩:=Et d y;have⟨c,b⟩:=DO c b y;refine Re 1 (Wt a g ?_);intro a;refine Rc 5 (Fl CV Ac b (Ro 9 (Wc z a ?_ ?_)))
  ·intro a;refine Rc 2 (Fl BK By c (Fl Bo Ac b (Ix a (i.oj g) Br Bq ?_)));rintro z0 A0 a _ ⟨B0,C0,D0,rfl,E0,T,U⟩;obtain rfl:=Az T;refine Fc Bu Fk U (Ro 2 (Fe 4 [] 87 83 a ?_ ?_))
   ·intro V a;refine Fl DA Ac b ?_;refine Cs a g Es (fun _=>Lx) ?_;rintro F0 a G0 A ⟨H0,I0⟩;have⟨c,b⟩:=DO c b A;cases BV a;exact Ro 1 (DW A)
   intro V a;intro J0 B;have⟨W,K0⟩:=Et g B;have⟨c,b⟩:=DO c b B;exact DF a W
  ·intro a;refine Rc 7 (Wc z a ?_ ?_)
   ·intro a;refine Rc 2 (Wf a g ?_);intro a;refine Rc 2 (Fl BK By c (Fl Bo Ac b (Ix a (i.oj g) Br Bq ?_)));rintro L0 M0 a _ ⟨N0,O0,P0,rfl,Q0,X,Y⟩;obtain rfl:=Az X;refine Fc Bu Fk Y (Ro 1 (Hi 4 [] 102 98 ((f.Sense==0)) z ?_ ?_))
    ·exact Fl DA Ac b (Ro 2 (Dc))
    exact DF a g
   ·intro a;refine Rc 5 (Wf a g ?_);intro a;refine Rc 2 (Fl BK By c (Fl Bo Ac b (Ix a (i.oj g) Br Bq ?_)));rintro R0 S0 a _ ⟨T0,U0,V0,rfl,W0,Z,a0⟩;obtain rfl:=Az Z;refine Fc Bu Fk a0 (Ro 1 (Hi 4 [] 102 98 ((f.Sense==0)) z ?_ ?_))
    ·exact Fl DA Ac b (Ro 2 (Dc))
    exact DF a g
def KV(n:Nat)(a0:Ah)(a1:Ah):Option Bool:=some ((((((a0.Kind==a1.Kind))&&((a0.From==a1.From))))&&((a0.To==a1.To))))
theorem Rh{a b:Ah}{f:Bool}{g h i j:Value}{k:Nat}(l:KV n a b=some f)(m:H<=w.heap.size)(o:BF C_Table w H a.Delay g)(p:BF C_Table w H a.Slew h)(c:Ap w k [.i b.Kind,.i b.From,.i b.To,.i b.Sense,i,j] 66)(q:BF C_Table w H b.Delay i)(r:BF C_Table w H b.Slew j):
 Calls prog 51 [.agg #[.i a.Kind,.i a.From,.i a.To,.i a.Sense,g,h],.p k].toArray w (BO (.bool f) w):=by
 have:=Ap.lt c;unfold KV at l;refine AF func51 z ntmps51 (Rc 2 (Ef z (Ak z z) ?_));rintro _ s ⟨t,rfl,u,v,d,e⟩;have x:=d.size;have c:=c.ext d;refine Ro 5 (Fl CV Ac e (Fl CV Ac c (Ro 2 (Hi 6 [1,2] 15 9 ((a.From==b.From)) z ?_ ?_))))
 ·exact Fl Bo Ac e (Fl Bo Ac c (Ro 2 (Dc)))
 refine Ro 1 (Hi 6 [] 22 16 ((a.To==b.To)) z ?_ ?_)
 ·exact Fl Bv Ac e (Fl Bv Ac c (Ro 2 (Dc)))
 exact DF l d
def Do(n:Nat)(a0:List Ah)(a1c0:Ah)(k0:Int->Option Int):Nat->Int->Option Int
 |0,_=>none
 |m+1,a=>cond (decide (a<(a0.length:Int))) ((AS a0 a).bind fun c=>(KV n c a1c0).bind fun b=>cond b (some a) (Do n a0 a1c0 k0 m (wrap .i64 (a+1)))) (k0 a)
def QX(n:Nat)(a0:List Ah)(a1c0:Ah):Option Int:=Do n a0 a1c0 (fun a=>some (-1)) n 0
theorem Su{g:List Ah}{b:Ah}{k:Int}{l o p:Value}{m:Nat}(a:QX n g b=some k)(F:H<=w.heap.size)(q:BF C_Arc w H g l)(h:Ap w m [.i b.Kind,.i b.From,.i b.To,.i b.Sense,o,p] 66)(s:BF C_Table w H b.Delay o)(t:BF C_Table w H b.Slew p):
 Calls prog 68 [l,.func (.func 51) #[] [.p m].toArray].toArray w (BO (.i k) w):=by
 have u:=AO.refl w;have:=Ap.lt h;unfold QX at a;refine AF func68 z ntmps68 (Rc 9 (Yl z (FJ z CA (q.oj u)) (Ro 4 ?_)));refine WC.loopD (fun d i wl=>∃e:Int,Kn 19 [(0,l),(1,.func (.func 51) #[] [.p m].toArray),(7,.i ((g.length:Int))),(8,.i e)] i∧AO w wl∧Do n g b (fun e=>(some (-1))) d e=some k) n ?_ ?_
 ·intro i f;exact⟨0,f.sub z,AO.refl _,a⟩
 ·rintro d i G ⟨e,f,c,a⟩;refine Dj f ?_;rcases d with _|d;exact Dp a;rw [Do.eq_2]at a;have I:=c.size;have h:=h.ext c;refine Rc 6 (Wf a c ?_);intro a;refine Rc 15 (Ix a (q.oj c) CA Ba ?_);rintro j J a _ ⟨K,L,M,rfl,N,v,x⟩;obtain⟨y,A,rfl,B,C⟩:=BR v;refine Yl z (Jr (us:=[.i j.Kind,.i j.From,.i j.To,.i j.Sense,y,A]) z FA x Ba) ?_;have⟨O,D,a⟩:=AM a;refine Ef z (DK z Oi z z (Rh D (by omega) B C h (s.oj c) (t.oj c):)) ?_;rintro _ P ⟨rfl,r⟩;have⟨E,Q⟩:=Et c r;refine Ro 2 (Wt a E ?_);intro a;refine Rc 8 ?_;intro i f;exact⟨d,nr,(wrap .i64 (e+1)),f.sub z,(AO.trans c r),a⟩
def MG(n:Nat)(a0:List Ah)(a1c0:Ah):Option Bool:=(QX n a0 a1c0).bind fun a=>some (decide (a>=0))
theorem RE{d:List Ah}{a:Ah}{e:Bool}{f g h:Value}{i:Nat}(b:MG n d a=some e)(q:H<=w.heap.size)(k:BF C_Arc w H d f)(j:Ap w i [.i a.Kind,.i a.From,.i a.To,.i a.Sense,g,h] 66)(l:BF C_Table w H a.Delay g)(m:BF C_Table w H a.Slew h):
 Calls prog 50 [f,.func (.func 51) #[] [.p i].toArray].toArray w (BO (.bool e) w):=by
 have c:=AO.refl w;have:=Ap.lt j;unfold MG at b;refine AF func50 z ntmps50 (Rc 9 (Cs b c NE (fun _ o=>(Su o (by omega) (k.oj c) j (l.oj c) (m.oj c):)) ?_));rintro r b s t ⟨p,u⟩;exact DF b p
def Ee(n:Nat)(a0:AE)(k0:Int->Option Bool):Nat->Int->Option Bool
 |0,_=>none
 |m+1,a=>cond (decide (a<(a0.Arcs.length:Int))) ((AS a0.Arcs a).bind fun b=>(LR n a0 b).bind fun e=>(cond (!e) (some true) ((EL a0.Arcs 0 a).bind fun f=>(MG n f b).bind fun d=>some d)).bind fun c=>cond c (some false) (Ee n a0 k0 m (wrap .i64 (a+1)))) (k0 a)
def Oa(n:Nat)(a0:AE):Option Bool:=Ee n a0 (fun a=>some (decide ((a0.Arcs.length:Int)<=8))) n 0
theorem Si{c:AE}{p:Bool}{A q B:Value}(a:Oa n c=some p)(hH:H<=w.heap.size)(E:BF C_Pin w H c.Pins A)(g:BF C_Arc w H c.Arcs q)(F:BF (AI .i64) w H c.Truth B):
 Calls prog 31 [.agg #[.string c.Name,.i c.Kind,A,q,B,.i c.Leak,.i c.Energy]].toArray w (BO (.bool p) w):=by
 unfold Oa at a;refine AF func31 z ntmps31 (Rc 2 (Ef z (Ak z z) ?_));rintro _ G ⟨I,rfl,V,W,r,b⟩;have X:=r.size;refine Ro 6 (FQ BB CC b CA (g.oj r) (Ro 4 ?_));have⟨J,K,a⟩:=Nt a;refine WC.loopD (fun h j wl=>∃k:Int,Kn 30 [(1,.p I),(6,q),(7,.i ((c.Arcs.length:Int))),(8,.i k)] j∧AO G wl∧Ee n c J h k=some p) n ?_ ?_
 ·intro j i;exact⟨0,i.sub z,AO.refl _,a⟩
 ·rintro h j Y ⟨k,i,s,a⟩;refine Dj i ?_;rcases h with _|h;exact Dp a;rw [Ee.eq_2]at a;have⟨l,Z⟩:=Et r s;have b:=b.ext s;refine Rc 6 (Wc z a ?_ ?_)
  ·intro a;refine Rc 7 (Ix a (g.oj l) CA Ba ?_);rintro m a0 a _ ⟨b0,c0,d0,rfl,e0,L,M⟩;obtain⟨N,O,rfl,d,e⟩:=BR L;refine Yl z (Jr (us:=[.i m.Kind,.i m.From,.i m.To,.i m.Sense,N,O]) z FA M Ba) (Ef z (AZ z IC) ?_);rintro _ f0 ⟨g0,rfl,h0,i0,t,f⟩;have⟨P,j0⟩:=Et l t;have⟨b,d,e⟩:=KJ b d e t;refine Ro 1 (Ef z (Bm z f Ba (AB z (AB z (AB z (AB z (AB (AD.one d) (AB (AD.one e) AP)))))) z) ?_);rintro _ k0 ⟨u,Q⟩;have⟨o,l0⟩:=Eu P u;have⟨b,d,e⟩:=Ju b d e u;have f:=Q;refine Ro 4 (Yl z (Bb z AU b AK) (Yl z (Bb z FA f Ba) ?_));refine Cs a o Pr (fun _ v=>(RS v (by omega) (E.oj o) (g.oj o) (F.oj o) d e:)) ?_;rintro m0 a n0 C ⟨x,o0⟩;have⟨b,f,d,e⟩:=Ja b f d e C;refine Ro 2 (Jy 7 [1,6,7,8] 24 17 a ?_ ?_)
   ·intro R a;refine Fl BB CC b (Ro 1 ?_);have⟨p0,S,a⟩:=AM a;refine Ye z (Fb (c:=C_Arc) z CA Ba z z (g.oj x) S) ?_;rintro q0 T;refine Yl z (Ci z z z) ?_;refine Cs a x NC (fun _ v=>(RE v (by omega) T f d e:)) ?_;rintro r0 a s0 D ⟨t0,u0⟩;have b:=b.ext D;cases BV a;exact Ro 1 (DW D)
   intro R a;intro v0 y;have⟨U,w0⟩:=Et x y;have b:=b.ext y;refine Ro 2 (Wt a U ?_);intro a;refine Rc 8 ?_;intro j i;exact⟨h,nr,(wrap .i64 (k+1)),i.sub z,(AO.trans (AO.trans (Eu (AO.trans s t) u).1 C) y),a⟩
  ·intro a;refine Rc 3 ?_
   subst K
   exact Re 4 (FQ BB CC b CA (g.oj l) (DF a l))
def LY(n:Nat)(a0:Ah)(a1:Int):Option Bool:=some ((a0.Kind==a1))
theorem SG{a:Ah}{d:Int}{e:Bool}{f g:Value}{h:Nat}(i:LY n a d=some e)(k:H<=w.heap.size)(l:BF C_Table w H a.Delay f)(m:BF C_Table w H a.Slew g)(b:Ap w h [.i d] 2):
 Calls prog 69 [.agg #[.i a.Kind,.i a.From,.i a.To,.i a.Sense,f,g],.p h].toArray w (BO (.bool e) w):=by
 have:=Ap.lt b;unfold LY at i;refine AF func69 z ntmps69 (Rc 2 (Ef z (Ak z z) ?_));rintro _ o ⟨p,rfl,q,r,c,j⟩;have s:=c.size;have b:=b.ext c;exact Ro 5 (Fl CV Ac j (Yl z (EO z Ac b z) (DF i c)))
def Dn(n:Nat)(a0:List Ah)(a1c0:Int)(k0:Int->Option Int):Nat->Int->Option Int
 |0,_=>none
 |m+1,a=>cond (decide (a<(a0.length:Int))) ((AS a0 a).bind fun c=>(LY n c a1c0).bind fun b=>cond b (some a) (Dn n a0 a1c0 k0 m (wrap .i64 (a+1)))) (k0 a)
def Qc(n:Nat)(a0:List Ah)(a1c0:Int):Option Int:=Dn n a0 a1c0 (fun a=>some (-1)) n 0
theorem TN{f:List Ah}{j k:Int}{l:Value}{m:Nat}(a:Qc n f j=some k)(B:H<=w.heap.size)(o:BF C_Arc w H f l)(g:Ap w m [.i j] 2):
 Calls prog 68 [l,.func (.func 69) #[] [.p m].toArray].toArray w (BO (.i k) w):=by
 have q:=AO.refl w;have:=Ap.lt g;unfold Qc at a;refine AF func68 z ntmps68 (Rc 9 (Yl z (FJ z CA (o.oj q)) (Ro 4 ?_)));refine WC.loopD (fun c h wl=>∃d:Int,Kn 19 [(0,l),(1,.func (.func 69) #[] [.p m].toArray),(7,.i ((f.length:Int))),(8,.i d)] h∧AO w wl∧Dn n f j (fun d=>(some (-1))) c d=some k) n ?_ ?_
 ·intro h e;exact⟨0,e.sub z,AO.refl _,a⟩
 ·rintro c h C ⟨d,e,b,a⟩;refine Dj e ?_;rcases c with _|c;exact Dp a;rw [Dn.eq_2]at a;have D:=b.size;have g:=g.ext b;refine Rc 6 (Wf a b ?_);intro a;refine Rc 15 (Ix a (o.oj b) CA Ba ?_);rintro i E a _ ⟨F,G,I,rfl,J,r,s⟩;obtain⟨t,u,rfl,v,x⟩:=BR r;refine Yl z (Jr (us:=[.i i.Kind,.i i.From,.i i.To,.i i.Sense,t,u]) z FA s Ba) ?_;have⟨K,y,a⟩:=AM a;refine Ef z (DK z Pa z z (SG y (by omega) v x g:)) ?_;rintro _ L ⟨rfl,p⟩;have⟨A,M⟩:=Et b p;refine Ro 2 (Wt a A ?_);intro a;refine Rc 8 ?_;intro h e;exact⟨c,nr,(wrap .i64 (d+1)),e.sub z,(AO.trans b p),a⟩
def MX(n:Nat)(a0:List Ah)(a1c0:Int):Option Bool:=(Qc n a0 a1c0).bind fun a=>some (decide (a>=0))
theorem SC{b:List Ah}{c:Int}{d:Bool}{e:Value}{f:Nat}(a:MX n b c=some d)(l:H<=w.heap.size)(i:BF C_Arc w H b e)(g:Ap w f [.i c] 2):
 Calls prog 50 [e,.func (.func 69) #[] [.p f].toArray].toArray w (BO (.bool d) w):=by
 have h:=AO.refl w;have:=Ap.lt g;unfold MX at a;refine AF func50 z ntmps50 (Rc 9 (Cs a h NE (fun _ j=>(TN j (by omega) (i.oj h) g:)) ?_));rintro m a o p ⟨k,q⟩;exact DF a k
def IQ(n:Nat)(a0:AE)(a1:Int):Option Bool:=(MX n a0.Arcs a1).bind fun a=>some a
theorem OC{a:AE}{d:Int}{e:Bool}{f g h:Value}(b:IQ n a d=some e)(q:H<=w.heap.size)(r:BF C_Pin w H a.Pins f)(l:BF C_Arc w H a.Arcs g)(s:BF (AI .i64) w H a.Truth h):
 Calls prog 52 [.agg #[.string a.Name,.i a.Kind,f,g,h,.i a.Leak,.i a.Energy],.i d].toArray w (BO (.bool e) w):=by
 unfold IQ at b;refine AF func52 z ntmps52 (Rc 2 (Ef z (Ak z z) ?_));rintro _ t ⟨u,rfl,v,x,i,c⟩;have y:=i.size;refine Ef z (Ak z z) ?_;rintro _ A ⟨B,rfl,C,D,j,m⟩;have⟨k,E⟩:=Et i j;have c:=c.ext j;refine Ro 5 (Fl BB CC c (Yl z (Ci z z z) ?_));refine Cs b k NC (fun _ o=>(SC o (by omega) (l.oj k) m:)) ?_;rintro F b G I ⟨p,J⟩;exact DF b p
def DH(a0:AE)(k0:Int->Int->Option Bool):Nat->Int->Int->Option Bool
 |0,_,_=>none
 |m+1,b,a=>cond (decide (a<(a0.Pins.length:Int))) ((AS a0.Pins a).bind fun c=>cond c.Clock (DH a0 k0 m (wrap .i64 (b+1)) (wrap .i64 (a+1))) (DH a0 k0 m b (wrap .i64 (a+1)))) (k0 b a)
def On(n:Nat)(a0:AE):Option Bool:=DH a0 (fun a t=>cond (a0.Kind==1) ((cond (a==0) ((Km n a0).bind fun b=>cond (decide (b<0)) none (some ((((a0.Truth.length:Int))==(Cj .i64 1 b))))) (some false)).bind fun p=>(cond p ((HY n a0.Truth 0 1).bind fun i=>some i) (some false)).bind fun k=>some k) (cond (a0.Kind==2) ((cond (((a==1))&&((((a0.Truth.length:Int))==0))) ((IQ n a0 1).bind fun f=>some (!f)) (some false)).bind fun d=>(cond d ((IQ n a0 2).bind fun o=>(IQ n a0 3).bind fun h=>some ((o !=h))) (some false)).bind fun j=>some j) (cond (a0.Kind==3) ((cond (((a==1))&&((((a0.Truth.length:Int))==0))) ((IQ n a0 1).bind fun c=>some c) (some false)).bind fun g=>(cond g ((IQ n a0 2).bind fun r=>some r) (some false)).bind fun s=>(cond s ((IQ n a0 3).bind fun e=>some (!e)) (some false)).bind fun l=>some l) (some false)))) n 0 0
theorem Tk{d:AE}{t:Bool}{u y A:Value}(a:On n d=some t)(hH:H<=w.heap.size)(f:BF C_Pin w H d.Pins u)(g:BF C_Arc w H d.Arcs y)(e:BF (AI .i64) w H d.Truth A):
 Calls prog 33 [.agg #[.string d.Name,.i d.Kind,u,y,A,.i d.Leak,.i d.Energy]].toArray w (BO (.bool t) w):=by
 unfold On at a;refine AF func33 z ntmps33 (Rc 2 (Ef z (Ak z z) ?_));rintro _ I ⟨J,rfl,i0,j0,v,b⟩;have k0:=v.size;refine Ro 11 (FQ BK By b Br (f.oj v) (Ro 4 ?_));have⟨K,L,a⟩:=RQ a;refine WC.loopD (fun h i wl=>∃j k:Int,Kn 83 [(1,.p J),(3,.i j),(7,u),(8,.i ((d.Pins.length:Int))),(9,.i k)] i∧AO I wl∧DH d K h j k=some t) n ?_ ?_
 ·intro i hK;exact⟨0,0,hK.sub z,AO.refl _,a⟩
 ·rintro h i l0 ⟨j,k,hK,p,a⟩;refine Dj hK ?_;rcases h with _|h;exact Dp a;rw [DH.eq_2]at a;have⟨c,m0⟩:=Et v p;have b:=b.ext p;refine Rc 6 (Wc z a ?_ ?_)
  ·intro a;refine Rc 6 (Ix a (f.oj c) Br Bq ?_);rintro q n0 a _ ⟨o0,p0,q0,rfl,r0,M,N⟩;obtain rfl:=Az M;refine Yl z (Jr (us:=[.string q.Name,.i q.Dir,.i q.Cap,.bool q.Clock]) z Iu N Bq) (Ef z (AZ z FU) ?_);rintro _ s0 ⟨t0,rfl,u0,v0,r,x⟩;have⟨O,w0⟩:=Et c r;have b:=b.ext r;refine Ef z (Bm z x Bq z z) ?_;rintro _ x0 ⟨s,P⟩;have⟨y0,z0⟩:=Eu O s;have b:=b.upd s (by omega);have x:=P;refine Ro 4 (Fl Bu Fk x (Ro 2 (Wc z a ?_ ?_)))
   ·intro a;refine Rc 12 ?_;intro i hK;exact⟨h,nr,(wrap .i64 (j+1)),(wrap .i64 (k+1)),hK.sub z,(Eu (AO.trans p r) s).1,a⟩
   ·intro a;refine Rc 8 ?_;intro i hK;exact⟨h,nr,j,(wrap .i64 (k+1)),hK.sub z,(Eu (AO.trans p r) s).1,a⟩
  ·intro a;refine Rc 3 ?_
   subst L
   refine Re 5 (Fl EC Ac b (Ro 9 (Wc z a ?_ ?_)))
   ·intro a;refine Rc 1 (BZ Tryd.hm (Qr 3 (Ei 8 [1] 32 24 a ?_ ?_)))
    ·intro Q a;refine KA BG At b Ab (e.oj c) (Qy z (Bb z AU b AK) ?_);have⟨A0,R,a⟩:=AM a;refine Ql z (Gx z JD fun w' hw'=>(Qf R (Nat.le_trans (by omega) (hw').size) (f.oh hH (AO.trans c hw')) (g.oh hH (AO.trans c hw')) (e.oh hH (AO.trans c hw')):)) ?_;have⟨S,a⟩:=Gj a;refine Qy z (DP z z z S) (Qr 1 ?_);cases BV a;exact Qr 1 FS
    intro Q a;refine Qr 1 (Ei 4 [] 37 33 a ?_ ?_)
    ·intro T a;refine Fq BG At b ?_;have⟨B0,U,a⟩:=AM a;refine Ql z (Gx z JB fun w' hw'=>(Lr U (Nat.le_trans (by omega) (hw').size) (e.oh hH (AO.trans c hw')):)) ?_;cases BV a;exact Qr 1 FS
    intro T a;refine Qr 1 ?_;refine QL.done fun C0 B=>?_;have⟨V,D0⟩:=Et c B;have b:=b.ext B;exact Qd a V
   ·intro a;refine Rc 6 (Wc z a ?_ ?_)
    ·intro a;refine Rc 1 (BZ Tryd.hm (Qr 3 (Ks 5 [1] 47 42 ((((d.Truth.length:Int))==0)) z ?_ ?_)))
     ·exact KA BG At b Ab (e.oj c) (Qr 2 FS)
     refine Qr 1 (Ei 4 [1] 52 48 a ?_ ?_)
     ·intro W a;refine Qy z (Bb z AU b AK) ?_;have⟨E0,X,a⟩:=AM a;refine Ql z (Gx z Gz fun w' hw'=>(OC X (Nat.le_trans (by omega) (hw').size) (f.oh hH (AO.trans c hw')) (g.oh hH (AO.trans c hw')) (e.oh hH (AO.trans c hw')):)) ?_;refine Qr 1 ?_;cases BV a;exact Qr 1 FS
     intro W a;refine Qr 1 (Ei 6 [] 59 53 a ?_ ?_)
     ·intro Y a;refine Qy z (Bb z AU b AK) ?_;have⟨F0,Z,a⟩:=AM a;refine Ql z (Gx z Gz fun w' hw'=>(OC Z (Nat.le_trans (by omega) (hw').size) (f.oh hH (AO.trans c hw')) (g.oh hH (AO.trans c hw')) (e.oh hH (AO.trans c hw')):)) ?_;refine Qy z (Bb z AU b AK) ?_;have⟨G0,a0,a⟩:=AM a;refine Ql z (Gx z Gz fun w' hw'=>(OC a0 (Nat.le_trans (by omega) (hw').size) (f.oh hH (AO.trans c hw')) (g.oh hH (AO.trans c hw')) (e.oh hH (AO.trans c hw')):)) ?_;refine Qy z (JJ z SU z z) ?_;cases BV a;exact Qr 1 FS
     intro Y a;refine Qr 1 ?_;refine QL.done fun H0 C=>?_;have⟨b0,I0⟩:=Et c C;have b:=b.ext C;exact Qd a b0
    ·intro a;refine Rc 6 (Wf a c ?_);intro a;refine Rc 5 (Hi 5 [1] 69 64 ((((d.Truth.length:Int))==0)) z ?_ ?_)
     ·exact FQ BG At b Ab (e.oj c) (Ro 2 (Dc))
     refine Ro 1 (Fe 3 [1] 73 70 a ?_ ?_)
     ·intro c0 a;refine Yl z (Bb z AU b AK) ?_;refine Cs a c Gz (fun _ l=>(OC l (by omega) (f.oj c) (g.oj c) (e.oj c):)) ?_;rintro J0 a K0 D ⟨L0,M0⟩;have b:=b.ext D;cases BV a;exact Ro 1 (DW D)
     intro c0 a;intro N0 E;have⟨m,O0⟩:=Et c E;have b:=b.ext E;refine Ro 1 (Fe 3 [1] 77 74 a ?_ ?_)
     ·intro d0 a;refine Yl z (Bb z AU b AK) ?_;refine Cs a m Gz (fun _ l=>(OC l (by omega) (f.oj m) (g.oj m) (e.oj m):)) ?_;rintro P0 a Q0 F ⟨R0,S0⟩;have b:=b.ext F;cases BV a;exact Ro 1 (DW F)
     intro d0 a;intro T0 G;have⟨o,U0⟩:=Et m G;have b:=b.ext G;refine Ro 1 (Fe 4 [] 82 78 a ?_ ?_)
     ·intro e0 a;refine Yl z (Bb z AU b AK) ?_;refine Cs a o Gz (fun _ l=>(OC l (by omega) (f.oj o) (g.oj o) (e.oj o):)) ?_;rintro V0 a W0 f0 ⟨X0,Y0⟩;cases BV a;exact Ro 1 (Ro 1 (DW f0))
     intro e0 a;intro Z0 g0;have⟨h0,a1⟩:=Et o g0;exact DF a h0
def Jm(n:Nat)(a0:AE):Option Bool:=(Jz n a0.Name).bind fun d=>(cond d ((Ox n a0.Pins).bind fun j=>some j) (some false)).bind fun f=>(cond f ((Oa n a0).bind fun b=>some b) (some false)).bind fun h=>(cond h ((HV n a0.Leak 0 100000).bind fun i=>some i) (some false)).bind fun c=>(cond c ((HV n a0.Energy 0 100000).bind fun e=>some e) (some false)).bind fun a=>(cond a ((On n a0).bind fun g=>some g) (some false)).bind fun k=>some k
theorem PY{c:AE}{i:Bool}{j k l:Value}(a:Jm n c=some i)(M:H<=w.heap.size)(g:BF C_Pin w H c.Pins j)(m:BF C_Arc w H c.Arcs k)(o:BF (AI .i64) w H c.Truth l):
 Calls prog 16 [.agg #[.string c.Name,.i c.Kind,j,k,l,.i c.Leak,.i c.Energy]].toArray w (BO (.bool i) w):=by
 unfold Jm at a;refine AF func16 z ntmps16 (Rc 2 (Ef z (Ak z z) ?_));rintro _ N ⟨O,rfl,P,Q,p,b⟩;have R:=p.size;refine Ro 5 (Fl Ha Gh b ?_);refine Cs a p NK (fun _=>QF) ?_;rintro S a T C ⟨h,U⟩;have b:=b.ext C;refine Ro 1 (Fe 4 [1] 10 6 a ?_ ?_)
 ·intro D a;refine Fl BK By b ?_;refine Cs a h Om (fun _ d=>(Ti d (by omega) (g.oj h):)) ?_;rintro V a W q ⟨X,Y⟩;have b:=b.ext q;cases BV a;exact Ro 1 (DW q)
 intro D a;intro Z r;have⟨e,a0⟩:=Et h r;have b:=b.ext r;refine Ro 1 (Fe 3 [1] 14 11 a ?_ ?_)
 ·intro E a;refine Yl z (Bb z AU b AK) ?_;refine Cs a e PG (fun _ d=>(Si d (by omega) (g.oj e) (m.oj e) (o.oj e):)) ?_;rintro b0 a c0 s ⟨d0,e0⟩;have b:=b.ext s;cases BV a;exact Ro 1 (DW s)
 intro E a;intro f0 t;have⟨u,g0⟩:=Et e t;have b:=b.ext t;refine Ro 1 (Fe 4 [1] 19 15 a ?_ ?_)
 ·intro F a;refine Fl Hd Ac b ?_;refine Cs a u Es (fun _=>Lx) ?_;rintro h0 a i0 v ⟨j0,k0⟩;have b:=b.ext v;cases BV a;exact Ro 1 (DW v)
 intro F a;intro l0 x;have⟨y,m0⟩:=Et u x;have b:=b.ext x;refine Ro 1 (Fe 4 [1] 24 20 a ?_ ?_)
 ·intro G a;refine Fl JK Ac b ?_;refine Cs a y Es (fun _=>Lx) ?_;rintro n0 a o0 A ⟨p0,q0⟩;have b:=b.ext A;cases BV a;exact Ro 1 (DW A)
 intro G a;intro r0 B;have⟨f,s0⟩:=Et y B;have b:=b.ext B;refine Ro 1 (Fe 3 [] 28 25 a ?_ ?_)
 ·intro I a;refine Yl z (Bb z AU b AK) ?_;refine Cs a f QE (fun _ d=>(Tk d (by omega) (g.oj f) (m.oj f) (o.oj f):)) ?_;rintro t0 a u0 J ⟨v0,w0⟩;cases BV a;exact Ro 1 (DW J)
 intro I a;intro x0 K;have⟨L,y0⟩:=Et f K;exact DF a L
def Ej(a0:AE)(a1:Int)(a2:Int)(a3:Int)(k0:Int->Option Bool):Nat->Int->Option Bool
 |0,_=>none
 |m+1,a=>cond (decide (a<(a0.Truth.length:Int))) ((AS a0.Truth a).bind fun b=>cond (decide (a1<0)) none ((cond ((EN .i64 (Fz .i64 a a1) 1)==a3) (cond (decide (a2<0)) none ((AS a0.Truth (Lw .i64 a (Cj .i64 1 a2))).bind fun d=>some ((b !=d)))) (some false)).bind fun c=>cond c (some true) (Ej a0 a1 a2 a3 k0 m (wrap .i64 (a+1))))) (k0 a)
def NP(n:Nat)(a0:AE)(a1:Int)(a2:Int)(a3:Int):Option Bool:=Ej a0 a1 a2 a3 (fun a=>some false) n 0
theorem SY{b:AE}{f g h:Int}{l:Bool}{r s m:Value}(a:NP n b f g h=some l)(C:H<=w.heap.size)(D:BF C_Pin w H b.Pins r)(E:BF C_Arc w H b.Arcs s)(o:BF (AI .i64) w H b.Truth m):
 Calls prog 34 [.agg #[.string b.Name,.i b.Kind,r,s,m,.i b.Leak,.i b.Energy],.i f,.i g,.i h].toArray w (BO (.bool l) w):=by
 unfold NP at a;refine AF func34 z ntmps34 (Rc 2 (Ef z (Ak z z) ?_));rintro _ u ⟨v,rfl,F,G,p,i⟩;have I:=p.size;refine Ro 6 (FQ BG At i Ab (o.oj p) (Ro 4 ?_));refine WC.loopD (fun c j wl=>∃d:Int,Kn 38 [(1,.i f),(2,.i g),(3,.i h),(4,.p v),(12,m),(13,.i ((b.Truth.length:Int))),(14,.i d)] j∧AO u wl∧Ej b f g h (fun d=>(some false)) c d=some l) n ?_ ?_
 ·intro j e;exact⟨0,e.sub z,AO.refl _,a⟩
 ·rintro c j J ⟨d,e,q,a⟩;refine Dj e ?_;rcases c with _|c;exact Dp a;rw [Ej.eq_2]at a;have⟨k,K⟩:=Et p q;have i:=i.ext q;refine Rc 6 (Wf a k ?_);intro a;refine Rc 7 (Il a (o.oj k) Ab As Ac ?_);rintro L a _;refine Ro 5 (BZ Tryd.hm (Qr 2 ?_));have⟨x,a⟩:=Gj a;refine Qy z (Fw z z z x) (Qy z (FD z z z) (Qr 3 (Ei 11 [1,2,3,4,12,13,14] 36 25 a ?_ ?_)))
  ·intro y a;refine Qr 1 (Fq BG At i (Qr 2 ?_));have⟨A,a⟩:=Gj a;refine Qy z (DP z z z A) (Qy z (MQ z z z) (JL a (o.oj k) Ab As Ac ?_));rintro M a _;refine Qr 1 ?_;cases BV a;exact Qr 1 FS
  intro y a;refine QL.done fun N t=>?_;have⟨B,O⟩:=Et k t;refine Re 1 (Wt a B ?_);intro a;refine Rc 8 ?_;intro j e;exact⟨c,nr,(wrap .i64 (d+1)),e.sub z,(AO.trans q t),a⟩
def Ls(n:Nat)(a0:AE)(a1:Int)(a2:Int):Option Int:=(NP n a0 a1 a2 0).bind fun b=>(NP n a0 a1 a2 1).bind fun a=>cond (b&&a) (some 2) (cond a (some 1) (cond b (some 0) (some (-1))))
theorem Qt{b:AE}{f g h:Int}{i j k:Value}(a:Ls n b f g=some h)(d:H<=w.heap.size)(l:BF C_Pin w H b.Pins i)(m:BF C_Arc w H b.Arcs j)(o:BF (AI .i64) w H b.Truth k):
 Calls prog 18 [.agg #[.string b.Name,.i b.Kind,i,j,k,.i b.Leak,.i b.Energy],.i f,.i g].toArray w (BO (.i h) w):=by
 unfold Ls at a;refine AF func18 z ntmps18 (Rc 2 (Ef z (Ak z z) ?_));rintro _ t ⟨u,rfl,v,x,c,p⟩;have y:=c.size;refine Ro 4 (BZ Tryd.hm (Qy z (Bb z AU p AK) (Qr 2 ?_)));have⟨A,q,a⟩:=AM a;refine Ql z (Gx z Mj fun w' hw'=>(SY q (Nat.le_trans (by omega) (hw').size) (l.oh d (AO.trans c hw')) (m.oh d (AO.trans c hw')) (o.oh d (AO.trans c hw')):)) ?_;refine Qy z (Bb z AU p AK) (Qr 2 ?_);have⟨B,r,a⟩:=AM a;refine Ql z (Gx z Mj fun w' hw'=>(SY r (Nat.le_trans (by omega) (hw').size) (l.oh d (AO.trans c hw')) (m.oh d (AO.trans c hw')) (o.oh d (AO.trans c hw')):)) ?_;refine Qr 2 ?_;refine QL.done fun C s=>?_;have⟨e,D⟩:=Et c s;refine Re 7 (KD 2 [7,8] 21 19 ?_);refine Ro 3 (Wt a e ?_);intro a;refine Rc 6 (Wt a e ?_);intro a;refine Rc 6 (Wt a e ?_);intro a;exact RD a e
def KQ(n:Nat)(a0:AE)(a1:Int)(a2:Int):Option Int:=(Jm n a0).bind fun a=>(cond ((!a)||((a0.Kind !=1))) (some true) ((IF n a0 a1).bind fun f=>some (!f))).bind fun e=>(cond e (some true) ((IF n a0 a2).bind fun d=>some (!d))).bind fun b=>cond (b||((a1==a2))) (some (-2)) ((Ls n a0 a1 a2).bind fun c=>some c)
theorem RC{c:AE}{l m o:Int}{p q r:Value}(a:KQ n c l m=some o)(C:H<=w.heap.size)(i:BF C_Pin w H c.Pins p)(j:BF C_Arc w H c.Arcs q)(k:BF (AI .i64) w H c.Truth r):
 Calls prog 7 [.agg #[.string c.Name,.i c.Kind,p,q,r,.i c.Leak,.i c.Energy],.i l,.i m].toArray w (BO (.i o) w):=by
 unfold KQ at a;refine AF func7 z ntmps7 (Rc 2 (Ef z (Ak z z) ?_));rintro _ D ⟨E,rfl,F,G,e,b⟩;have I:=e.size;refine Ro 6 (Yl z (Bb z AU b AK) ?_);refine Cs a e ND (fun _ d=>(PY d (by omega) (i.oj e) (j.oj e) (k.oj e):)) ?_;rintro J a K x ⟨f,L⟩;have b:=b.ext x;refine Ro 2 (Nd 4 [1,2,3] 14 10 ((c.Kind !=1)) z ?_ ?_)
 ·exact Fl EC Ac b (Ro 2 (Dc))
 refine Ro 1 (Jy 5 [1,2,3] 20 15 a ?_ ?_)
 ·intro y a;refine Yl z (Bb z AU b AK) (Ro 1 ?_);refine Cs a f Iw (fun _ d=>(Lu d (by omega) (i.oj f) (j.oj f) (k.oj f):)) ?_;rintro M a N s ⟨O,P⟩;have b:=b.ext s;cases BV a;exact Ro 1 (Ro 1 (DW s))
 intro y a;intro Q t;have⟨g,R⟩:=Et f t;have b:=b.ext t;refine Ro 1 (Jy 5 [1,2,3] 26 21 a ?_ ?_)
 ·intro A a;refine Yl z (Bb z AU b AK) (Ro 1 ?_);refine Cs a g Iw (fun _ d=>(Lu d (by omega) (i.oj g) (j.oj g) (k.oj g):)) ?_;rintro S a T u ⟨U,V⟩;have b:=b.ext u;cases BV a;exact Ro 1 (Ro 1 (DW u))
 intro A a;intro W v;have⟨h,X⟩:=Et g v;have b:=b.ext v;refine Ro 1 (Qg 4 [1,2,3] 31 27 ?_);refine Ro 2 (Wt a h ?_);intro a;refine Rc 4 (Yl z (Bb z AU b AK) (Ro 2 ?_));refine Cs a h PH (fun _ d=>(Qt d (by omega) (i.oj h) (j.oj h) (k.oj h):)) ?_;rintro Y a Z a0 ⟨B,b0⟩;exact DF a B
def EU(a1:List Int)(k1:Int->Int->Option (Int×Int)):Nat->Int->Int->Option (Int×Int)
 |0,_,_=>none
 |m+1,b,a=>cond (decide (a<(a1.length:Int))) ((AS a1 a).bind fun c=>cond (decide (a<0)) none (EU a1 k1 m (Pq .i64 b (Cj .i64 c a)) (wrap .i64 (a+1)))) (k1 b a)
def Lg(n:Nat)(a0:AE)(a1:List Int):Option (Int×Int):=(Jm n a0).bind fun a=>cond (!a) (some (0,1)) (cond (a0.Kind !=1) (some (0,5)) ((Jw n a1).bind fun g=>(Km n a0).bind fun f=>(cond (g !=f) (some true) ((HY n a1 0 1).bind fun d=>some (!d))).bind fun c=>cond c (some (0,2)) (EU a1 (fun b h=>(AS a0.Truth b).bind fun e=>some (e,0)) n 0 0)))
theorem Qh{b:AE}{g:List Int}{h:Int×Int}{r s t l:Value}(hF:Lg n b g=some h)(hH:H<=w.heap.size)(u:BF C_Pin w H b.Pins r)(v:BF C_Arc w H b.Arcs s)(m:BF (AI .i64) w H b.Truth t)(i:BF (AI .i64) w H g l):
 Calls prog 10 [.agg #[.string b.Name,.i b.Kind,r,s,t,.i b.Leak,.i b.Energy],l].toArray w (DY fun y A=>y= .tuple #[.i h.1,.i h.2]∧AO w A):=by
 unfold Lg at hF;refine AF func10 z ntmps10 (Rc 2 (Ef z (Ak z z) ?_));rintro _ O ⟨B,rfl,P,Q,d,a⟩;have R:=d.size;refine Ro 8 (Yl z (Bb z AU a AK) ?_);refine Cs hF d ND (fun _ C=>(PY C (by omega) (u.oj d) (v.oj d) (m.oj d):)) ?_;rintro S hF T D ⟨c,U⟩;have a:=a.ext D;refine Ro 4 (Wt hF c ?_);intro hF;refine Rc 2 (Fl EC Ac a (Ro 4 (Wt hF c ?_)));intro hF;refine Rc 1 (BZ Tryd.hm (Qr 1 ?_));have⟨V,E,hF⟩:=AM hF;refine Ql z (Gx z Mo fun w' hw'=>(PZ E (Nat.le_trans (by omega) (hw').size) (i.oh hH (AO.trans c hw')):)) ?_;refine Qy z (Bb z AU a AK) ?_;have⟨W,F,hF⟩:=AM hF;refine Ql z (Gx z JD fun w' hw'=>(Qf F (Nat.le_trans (by omega) (hw').size) (u.oh hH (AO.trans c hw')) (v.oh hH (AO.trans c hw')) (m.oh hH (AO.trans c hw')):)) ?_;refine Qr 2 (Ig 4 [1,2] 27 23 hF ?_ ?_)
 ·intro G hF;refine Qr 1 ?_;have⟨X,I,hF⟩:=AM hF;refine Ql z (Gx z JB fun w' hw'=>(Lr I (Nat.le_trans (by omega) (hw').size) (i.oh hH (AO.trans c hw')):)) ?_;refine Qr 1 ?_;cases BV hF;exact Qr 1 FS
 intro G hF;refine Qr 1 ?_;refine QL.done fun J x=>?_;have⟨o,Y⟩:=Et c x;have a:=a.ext x;refine Re 1 (Wt hF o ?_);intro hF;refine Rc 12 (Yl z (FJ z Ab (i.oj o)) (Ro 4 ?_));have⟨K,L,hF⟩:=RQ hF;refine WC.loopD (fun e j wl=>∃k f:Int,Kn 46 [(2,.p B),(6,.i k),(28,l),(29,.i ((g.length:Int))),(30,.i f)] j∧AO J wl∧EU g K e k f=some h) n ?_ ?_
 ·intro j hK;exact⟨0,0,hK.sub z,AO.refl _,hF⟩
 ·rintro e j Z ⟨k,f,hK,p,hF⟩;refine Dj hK ?_;rcases e with _|e;exact Dp hF;rw [EU.eq_2]at hF;have⟨q,a0⟩:=Et o p;have a:=a.ext p;refine Rc 6 (Wc z hF ?_ ?_)
  ·intro hF;refine Rc 7 (Il hF (i.oj q) Ab As Ac ?_);rintro M hF _;have⟨N,hF⟩:=Gj hF;refine Ro 8 (Yl z (DP z z z N) (Yl z (Nh z z z) (Ro 9 ?_)));intro j hK;exact⟨e,nr,(Pq .i64 k (Cj .i64 M f)),(wrap .i64 (f+1)),hK.sub z,p,hF⟩
  ·intro hF;refine Rc 3 ?_
   subst L
   refine Re 4 (Fl BG At a (Ro 1 (Il hF (m.oj q) Ab As Ac ?_)));rintro b0 hF _;exact DF hF q
end Go.Proofs.YtejmafeocaidlaaDoor
