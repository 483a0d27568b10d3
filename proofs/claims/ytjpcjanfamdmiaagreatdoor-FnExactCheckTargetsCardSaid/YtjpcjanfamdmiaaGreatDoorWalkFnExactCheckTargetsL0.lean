/- The walks: every function that FnExactCheckTargets reaches computes the plain function that is typed beside it; no condition. -/
import Derived.Test.YtjpcjanfamdmiaaGreatDoorWalkFnExactCheckTargetsB0
set_option linter.all false
set_option maxRecDepth 20000
set_option maxHeartbeats 40000000
namespace Go.Proofs.YtjpcjanfamdmiaaGreatDoor
open Go Go.RowKit Go.Eng Go.Proofs.Tryz
open Go.IntKind (wrap)
variable {n H:Nat} {w:World}
def SK(n:Nat)(a0:List Int)(a1:Int):Option Int:=cond (decide (wrap .i64 (a1-((a0.length:Int)))<0)) (some (-1)) (some (wrap .i64 (a1-((a0.length:Int)))))
theorem dD{c:List Int}{d e:Int}{f:Value}(a:SK n c d=some e)(h:H<=w.heap.size)(g:AR (AL .i64) w H c f):
 Calls prog 91 [f,.i d].toArray w (Ao (.i e) w):=by
 have b:=AJ.refl w;unfold SK at a;refine AA func91 z ntmps91 (Rc 9 (Yl z (Bs z Af (g.oj b)) (Ro 11 (Wt a b ?_))));intro a;exact Iy a b
def Qm(n:Nat)(a0:BD)(a1:Int):Option Int:=cond (decide (wrap .i64 (a1-((a0.Name.size:Int)))<0)) (some (-1)) (some (wrap .i64 (a1-((a0.Name.size:Int)))))
theorem yK{a:BD}{d e:Int}(b:Qm n a d=some e):
 Calls prog 152 [.agg #[.string a.Name,.i a.Dir,.i a.Cap,.bool a.Clock],.i d].toArray w (Ao (.i e) w):=by
 unfold Qm at b;refine AA func152 z ntmps152 (Rc 2 (Ef z (AF z z) ?_));rintro _ g ⟨h,rfl,i,H,c,f⟩;have j:=c.size;refine Ro 6 (Fl Qw Dl f (Yl z (Ep z Ri z) (Ro 11 (Wt b c ?_))));intro b;exact Iy b c
def HN(n:Nat)(a0:List BD)(k0:Int->Int->Option Int):Nat->Int->Int->Option Int
 |0,_,_=>none
 |m+1,c,b=>cond (decide (b<(a0.length:Int))) ((AE a0 b).bind fun d=>(Qm n d c).bind fun a=>cond (decide (a<0)) (some (-1)) (HN n a0 k0 m a (wrap .i64 (b+1)))) (k0 c b)
def mW(n:Nat)(a0:List BD)(a1:Int):Option Int:=cond (decide (wrap .i64 (a1-((a0.length:Int)))<0)) (some (-1)) (HN n a0 (fun a b=>some a) n (wrap .i64 (a1-((a0.length:Int)))) 0)
theorem W_y{g:List BD}{j k:Int}{l:Value}(a:mW n g j=some k)(u:H<=w.heap.size)(m:AR C_Pin w H g l):
 Calls prog 123 [l,.i j].toArray w (Ao (.i k) w):=by
 have o:=AJ.refl w;unfold mW at a;refine AA func123 z ntmps123 (Rc 9 (Yl z (Bs z Nk (m.oj o)) (Ro 11 (Wt a o ?_))));intro a;refine Rc 9 (WC.loopD (fun c h wl=>∃d e:Int,Kn 27 [(0,l),(1,.i d),(5,.i e)] h∧AJ w wl∧HN n g (fun d e=>(some d)) c d e=some k) n ?_ ?_)
 ·intro h f;exact⟨(wrap .i64 (j-((g.length:Int)))),0,f.sub z,AJ.refl _,a⟩
 ·rintro c h v ⟨d,e,f,b,a⟩;refine By f ?_;rcases c with _|c;exact Bx a;rw [HN.eq_2]at a;have x:=b.size;refine Rc 5 (Yl z (Bs z Nk (m.oj b)) (Ro 3 (Wf a b ?_)));intro a;refine Rc 8 (Ix a (m.oj b) Nk PN ?_);rintro i y a _ ⟨A,B,C,rfl,D,p,q⟩;obtain rfl:=Bg p;refine Yl z (CJ (us:=[.string i.Name,.i i.Dir,.i i.Cap,.bool i.Clock]) z XW q PN) (Ro 1 ?_);refine Cs a b nT (fun _=>yK) ?_;rintro r a E s ⟨t,F⟩;refine Ro 9 (Wt a t ?_);intro a;refine Rc 9 ?_;intro h f;exact⟨c,nr,r,(wrap .i64 (e+1)),f.sub z,(AJ.trans b s),a⟩
def Rb(n:Nat)(a0:AS)(a1:Int):Option Int:=(SK n a0.Slews a1).bind fun c=>cond (decide (c<0)) (some (-1)) ((SK n a0.Loads c).bind fun b=>cond (decide (b<0)) (some (-1)) ((SK n a0.Values b).bind fun a=>cond (decide (a<0)) (some (-1)) (some a)))
theorem AbR{d:AS}{h i:Int}{j k l:Value}(a:Rb n d h=some i)(t:H<=w.heap.size)(o:AR (AL .i64) w H d.Slews j)(p:AR (AL .i64) w H d.Loads k)(q:AR (AL .i64) w H d.Values l):
 Calls prog 196 [.agg #[j,k,l],.i h].toArray w (Ao (.i i) w):=by
 unfold Rb at a;refine AA func196 z ntmps196 (Rc 2 (Ef z (AF z z) ?_));rintro _ u ⟨v,rfl,x,y,e,b⟩;have A:=e.size;refine Ro 5 (Fl Rh Ad b (Ro 1 ?_));refine Cs a e Lr (fun _ c=>(dD c (by omega) (o.oj e):)) ?_;rintro B a C r ⟨f,D⟩;have b:=b.ext r;refine Ro 10 (Wt a f ?_);intro a;refine Rc 4 (Fl RB Ad b (Ro 1 ?_));refine Cs a f Lr (fun _ c=>(dD c (by omega) (p.oj f):)) ?_;rintro E a F s ⟨g,G⟩;have b:=b.ext s;refine Ro 10 (Wt a g ?_);intro a;refine Rc 4 (Fl RR Ad b (Ro 1 ?_));refine Cs a g Lr (fun _ c=>(dD c (by omega) (q.oj g):)) ?_;rintro I a J K ⟨m,L⟩;refine Ro 10 (Wt a m ?_);intro a;exact Iy a m
def HD(n:Nat)(a0:List AS)(k0:Int->Int->Option Int):Nat->Int->Int->Option Int
 |0,_,_=>none
 |m+1,c,b=>cond (decide (b<(a0.length:Int))) ((AE a0 b).bind fun d=>(Rb n d c).bind fun a=>cond (decide (a<0)) (some (-1)) (HD n a0 k0 m a (wrap .i64 (b+1)))) (k0 c b)
def fY(n:Nat)(a0:List AS)(a1:Int):Option Int:=cond (decide (wrap .i64 (a1-((a0.length:Int)))<0)) (some (-1)) (HD n a0 (fun a b=>some a) n (wrap .i64 (a1-((a0.length:Int)))) 0)
theorem W_w{g:List AS}{i j:Int}{k:Value}(a:fY n g i=some j)(C:H<=w.heap.size)(l:AR C_Table w H g k):
 Calls prog 180 [k,.i i].toArray w (Ao (.i j) w):=by
 have m:=AJ.refl w;unfold fY at a;refine AA func180 z ntmps180 (Rc 9 (Yl z (Bs z OF (l.oj m)) (Ro 11 (Wt a m ?_))));intro a;refine Rc 9 (WC.loopD (fun c h wl=>∃d e:Int,Kn 27 [(0,k),(1,.i d),(5,.i e)] h∧AJ w wl∧HD n g (fun d e=>(some d)) c d e=some j) n ?_ ?_)
 ·intro h f;exact⟨(wrap .i64 (i-((g.length:Int)))),0,f.sub z,AJ.refl _,a⟩
 ·rintro c h D ⟨d,e,f,b,a⟩;refine By f ?_;rcases c with _|c;exact Bx a;rw [HD.eq_2]at a;have E:=b.size;refine Rc 5 (Yl z (Bs z OF (l.oj b)) (Ro 3 (Wf a b ?_)));intro a;refine Rc 8 (Ix a (l.oj b) OF PS ?_);rintro F G a _ ⟨I,J,K,rfl,L,o,p⟩;obtain⟨q,r,s,rfl,t,u,v⟩:=Co o;refine Yl z (CJ (us:=[q,r,s]) z WF p PS) (Ro 1 ?_);refine Cs a b jQ (fun _ x=>(AbR x (by omega) t u v:)) ?_;rintro y a M A ⟨B,N⟩;refine Ro 9 (Wt a B ?_);intro a;refine Rc 9 ?_;intro h f;exact⟨c,nr,y,(wrap .i64 (e+1)),f.sub z,(AJ.trans b A),a⟩
def QN(n:Nat)(a0:Ah)(a1:Int):Option Int:=(fY n a0.Delay a1).bind fun b=>cond (decide (b<0)) (some (-1)) ((fY n a0.Slew b).bind fun a=>cond (decide (a<0)) (some (-1)) (some a))
theorem xB{b:Ah}{g h:Int}{i j:Value}(a:QN n b g=some h)(p:H<=w.heap.size)(l:AR C_Table w H b.Delay i)(m:AR C_Table w H b.Slew j):
 Calls prog 153 [.agg #[.i b.Kind,.i b.From,.i b.To,.i b.Sense,i,j],.i g].toArray w (Ao (.i h) w):=by
 unfold QN at a;refine AA func153 z ntmps153 (Rc 2 (Ef z (AF z z) ?_));rintro _ q ⟨r,rfl,s,t,d,c⟩;have u:=d.size;refine Ro 5 (Fl RY Pn c (Ro 1 ?_));refine Cs a d ZR (fun _ e=>(W_w e (by omega) (l.oj d):)) ?_;rintro v a x o ⟨f,y⟩;have c:=c.ext o;refine Ro 10 (Wt a f ?_);intro a;refine Rc 4 (Fl Pv Pn c (Ro 1 ?_));refine Cs a f ZR (fun _ e=>(W_w e (by omega) (m.oj f):)) ?_;rintro A a B C ⟨k,D⟩;refine Ro 10 (Wt a k ?_);intro a;exact Iy a k
def HF(n:Nat)(a0:List Ah)(k0:Int->Int->Option Int):Nat->Int->Int->Option Int
 |0,_,_=>none
 |m+1,c,b=>cond (decide (b<(a0.length:Int))) ((AE a0 b).bind fun d=>(QN n d c).bind fun a=>cond (decide (a<0)) (some (-1)) (HF n a0 k0 m a (wrap .i64 (b+1)))) (k0 c b)
def jF(n:Nat)(a0:List Ah)(a1:Int):Option Int:=cond (decide (wrap .i64 (a1-((a0.length:Int)))<0)) (some (-1)) (HF n a0 (fun a b=>some a) n (wrap .i64 (a1-((a0.length:Int)))) 0)
theorem W_z{g:List Ah}{j k:Int}{l:Value}(a:jF n g j=some k)(B:H<=w.heap.size)(m:AR C_Arc w H g l):
 Calls prog 124 [l,.i j].toArray w (Ao (.i k) w):=by
 have o:=AJ.refl w;unfold jF at a;refine AA func124 z ntmps124 (Rc 9 (Yl z (Bs z Np (m.oj o)) (Ro 11 (Wt a o ?_))));intro a;refine Rc 9 (WC.loopD (fun c h wl=>∃d e:Int,Kn 27 [(0,l),(1,.i d),(5,.i e)] h∧AJ w wl∧HF n g (fun d e=>(some d)) c d e=some k) n ?_ ?_)
 ·intro h f;exact⟨(wrap .i64 (j-((g.length:Int)))),0,f.sub z,AJ.refl _,a⟩
 ·rintro c h C ⟨d,e,f,b,a⟩;refine By f ?_;rcases c with _|c;exact Bx a;rw [HF.eq_2]at a;have D:=b.size;refine Rc 5 (Yl z (Bs z Np (m.oj b)) (Ro 3 (Wf a b ?_)));intro a;refine Rc 8 (Ix a (m.oj b) Np PH ?_);rintro i E a _ ⟨F,G,I,rfl,J,p,q⟩;obtain⟨r,s,rfl,t,u⟩:=BP p;refine Yl z (CJ (us:=[.i i.Kind,.i i.From,.i i.To,.i i.Sense,r,s]) z Zu q PH) (Ro 1 ?_);refine Cs a b kT (fun _ v=>(xB v (by omega) t u:)) ?_;rintro x a K y ⟨A,L⟩;refine Ro 9 (Wt a A ?_);intro a;refine Rc 9 ?_;intro h f;exact⟨c,nr,x,(wrap .i64 (e+1)),f.sub z,(AJ.trans b y),a⟩
def QM(n:Nat)(a0:AX)(a1:Int):Option Int:=cond (decide (wrap .i64 (a1-((a0.Name.size:Int)))<0)) (some (-1)) ((mW n a0.Pins (wrap .i64 (a1-((a0.Name.size:Int))))).bind fun c=>cond (decide (c<0)) (some (-1)) ((jF n a0.Arcs c).bind fun b=>cond (decide (b<0)) (some (-1)) ((SK n a0.Truth b).bind fun a=>cond (decide (a<0)) (some (-1)) (some a))))
theorem zF{b:AX}{h i:Int}{j k l:Value}(a:QM n b h=some i)(t:H<=w.heap.size)(o:AR C_Pin w H b.Pins j)(p:AR C_Arc w H b.Arcs k)(q:AR (AL .i64) w H b.Truth l):
 Calls prog 88 [.agg #[.string b.Name,.i b.Kind,j,k,l,.i b.Leak,.i b.Energy],.i h].toArray w (Ao (.i i) w):=by
 unfold QM at a;refine AA func88 z ntmps88 (Rc 2 (Ef z (AF z z) ?_));rintro _ u ⟨v,rfl,x,y,e,c⟩;have A:=e.size;refine Ro 6 (Fl Qx Dl c (Yl z (Ep z Ri z) (Ro 11 (Wt a e ?_))));intro a;refine Rc 4 (Fl QK ZL c (Ro 1 ?_));refine Cs a e jM (fun _ d=>(W_y d (by omega) (o.oj e):)) ?_;rintro B a C r ⟨f,D⟩;have c:=c.ext r;refine Ro 10 (Wt a f ?_);intro a;refine Rc 4 (Fl RD Vy c (Ro 1 ?_));refine Cs a f nJ (fun _ d=>(W_z d (by omega) (p.oj f):)) ?_;rintro E a F s ⟨g,G⟩;have c:=c.ext s;refine Ro 10 (Wt a g ?_);intro a;refine Rc 4 (Fl Qn Ad c (Ro 1 ?_));refine Cs a g Lr (fun _ d=>(dD d (by omega) (q.oj g):)) ?_;rintro I a J K ⟨m,L⟩;refine Ro 10 (Wt a m ?_);intro a;exact Iy a m
def FP(n:Nat)(a0:List AX)(k0:Int->Int->Option Int):Nat->Int->Int->Option Int
 |0,_,_=>none
 |m+1,c,b=>cond (decide (b<(a0.length:Int))) ((AE a0 b).bind fun d=>(QM n d c).bind fun a=>cond (decide (a<0)) (some (-1)) (FP n a0 k0 m a (wrap .i64 (b+1)))) (k0 c b)
def Sz(n:Nat)(a0:List AX)(a1:Int):Option Int:=cond (decide (wrap .i64 (a1-((a0.length:Int)))<0)) (some (-1)) (FP n a0 (fun a b=>some a) n (wrap .i64 (a1-((a0.length:Int)))) 0)
theorem AaF{g:List AX}{j k:Int}{l:Value}(a:Sz n g j=some k)(D:H<=w.heap.size)(m:AR C_Cell w H g l):
 Calls prog 47 [l,.i j].toArray w (Ao (.i k) w):=by
 have o:=AJ.refl w;unfold Sz at a;refine AA func47 z ntmps47 (Rc 9 (Yl z (Bs z Rv (m.oj o)) (Ro 11 (Wt a o ?_))));intro a;refine Rc 9 (WC.loopD (fun c h wl=>∃d e:Int,Kn 27 [(0,l),(1,.i d),(5,.i e)] h∧AJ w wl∧FP n g (fun d e=>(some d)) c d e=some k) n ?_ ?_)
 ·intro h f;exact⟨(wrap .i64 (j-((g.length:Int)))),0,f.sub z,AJ.refl _,a⟩
 ·rintro c h E ⟨d,e,f,b,a⟩;refine By f ?_;rcases c with _|c;exact Bx a;rw [FP.eq_2]at a;have F:=b.size;refine Rc 5 (Yl z (Bs z Rv (m.oj b)) (Ro 3 (Wf a b ?_)));intro a;refine Rc 8 (Ix a (m.oj b) Rv PJ ?_);rintro i G a _ ⟨I,J,K,rfl,L,p,q⟩;obtain⟨r,s,t,rfl,u,v,x⟩:=BV p;refine Yl z (CJ (us:=[.string i.Name,.i i.Kind,r,s,t,.i i.Leak,.i i.Energy]) z ZM q PJ) (Ro 1 ?_);refine Cs a b oT (fun _ y=>(zF y (by omega) u v x:)) ?_;rintro A a M B ⟨C,N⟩;refine Ro 9 (Wt a C ?_);intro a;refine Rc 9 ?_;intro h f;exact⟨c,nr,A,(wrap .i64 (e+1)),f.sub z,(AJ.trans b B),a⟩
def SV(n:Nat)(a0:Ab)(a1:Int):Option Int:=(Sz n a0.Cells a1).bind fun a=>cond (decide (a<0)) (some (-1)) (some a)
theorem AaU{c:Ab}{d e:Int}{f:Value}(a:SV n c d=some e)(k:H<=w.heap.size)(h:AR C_Cell w H c.Cells f):
 Calls prog 18 [.agg #[f],.i d].toArray w (Ao (.i e) w):=by
 unfold SV at a;refine AA func18 z ntmps18 (Rc 2 (Ef z (AF z z) ?_));rintro _ l ⟨m,rfl,o,p,b,i⟩;have q:=b.size;refine Ro 5 (Fl Tt fJ i (Ro 1 ?_));refine Cs a b tM (fun _ j=>(AaF j (by omega) (h.oj b):)) ?_;rintro r a s t ⟨g,u⟩;refine Ro 10 (Wt a g ?_);intro a;exact Iy a g
def Pz(n:Nat)(a0:AO)(a1:Int):Option Int:=cond (decide (wrap .i64 (a1-((a0.Name.size:Int)))<0)) (some (-1)) ((SK n a0.Nets (wrap .i64 (a1-((a0.Name.size:Int))))).bind fun a=>cond (decide (a<0)) (some (-1)) (some a))
theorem zP{b:AO}{d e:Int}{f:Value}(a:Pz n b d=some e)(k:H<=w.heap.size)(i:AR (AL .i64) w H b.Nets f):
 Calls prog 89 [.agg #[.string b.Name,.i b.Cell,f],.i d].toArray w (Ao (.i e) w):=by
 unfold Pz at a;refine AA func89 z ntmps89 (Rc 2 (Ef z (AF z z) ?_));rintro _ l ⟨m,rfl,o,p,c,g⟩;have q:=c.size;refine Ro 6 (Fl Qp Dl g (Yl z (Ep z Ri z) (Ro 11 (Wt a c ?_))));intro a;refine Rc 4 (Fl Pq Ad g (Ro 1 ?_));refine Cs a c Lr (fun _ j=>(dD j (by omega) (i.oj c):)) ?_;rintro r a s t ⟨h,u⟩;refine Ro 10 (Wt a h ?_);intro a;exact Iy a h
def Fa(n:Nat)(a0:List AO)(k0:Int->Int->Option Int):Nat->Int->Int->Option Int
 |0,_,_=>none
 |m+1,c,b=>cond (decide (b<(a0.length:Int))) ((AE a0 b).bind fun d=>(Pz n d c).bind fun a=>cond (decide (a<0)) (some (-1)) (Fa n a0 k0 m a (wrap .i64 (b+1)))) (k0 c b)
def TE(n:Nat)(a0:List AO)(a1:Int):Option Int:=cond (decide (wrap .i64 (a1-((a0.length:Int)))<0)) (some (-1)) (Fa n a0 (fun a b=>some a) n (wrap .i64 (a1-((a0.length:Int)))) 0)
theorem AbQ{g:List AO}{i j:Int}{k:Value}(a:TE n g i=some j)(y:H<=w.heap.size)(l:AR C_Instance w H g k):
 Calls prog 48 [k,.i i].toArray w (Ao (.i j) w):=by
 have m:=AJ.refl w;unfold TE at a;refine AA func48 z ntmps48 (Rc 9 (Yl z (Bs z St (l.oj m)) (Ro 11 (Wt a m ?_))));intro a;refine Rc 9 (WC.loopD (fun c h wl=>∃d e:Int,Kn 27 [(0,k),(1,.i d),(5,.i e)] h∧AJ w wl∧Fa n g (fun d e=>(some d)) c d e=some j) n ?_ ?_)
 ·intro h f;exact⟨(wrap .i64 (i-((g.length:Int)))),0,f.sub z,AJ.refl _,a⟩
 ·rintro c h A ⟨d,e,f,b,a⟩;refine By f ?_;rcases c with _|c;exact Bx a;rw [Fa.eq_2]at a;have B:=b.size;refine Rc 5 (Yl z (Bs z St (l.oj b)) (Ro 3 (Wf a b ?_)));intro a;refine Rc 8 (Ix a (l.oj b) St PQ ?_);rintro o C a _ ⟨D,E,F,rfl,G,p,q⟩;obtain⟨r,rfl,s⟩:=As p;refine Yl z (CJ (us:=[.string o.Name,.i o.Cell,r]) z WA q PQ) (Ro 1 ?_);refine Cs a b qC (fun _ t=>(zP t (by omega) s:)) ?_;rintro u a I v ⟨x,J⟩;refine Ro 9 (Wt a x ?_);intro a;refine Rc 9 ?_;intro h f;exact⟨c,nr,u,(wrap .i64 (e+1)),f.sub z,(AJ.trans b v),a⟩
def FZ(a0:List ByteArray)(k0:Int->Int->Option Int):Nat->Int->Int->Option Int
 |0,_,_=>none
 |m+1,b,a=>cond (decide (a<(a0.length:Int))) ((AE a0 a).bind fun c=>cond (decide (wrap .i64 (b-((c.size:Int)))<0)) (some (-1)) (FZ a0 k0 m (wrap .i64 (b-((c.size:Int)))) (wrap .i64 (a+1)))) (k0 b a)
def Sf(n:Nat)(a0:List ByteArray)(a1:Int):Option Int:=cond (decide (wrap .i64 (a1-((a0.length:Int)))<0)) (some (-1)) (FZ a0 (fun a b=>some a) n (wrap .i64 (a1-((a0.length:Int)))) 0)
theorem AaJ{g:List ByteArray}{i j:Int}{k:Value}(a:Sf n g i=some j)(p:H<=w.heap.size)(l:AR At w H g k):
 Calls prog 49 [k,.i i].toArray w (Ao (.i j) w):=by
 have m:=AJ.refl w;unfold Sf at a;refine AA func49 z ntmps49 (Rc 9 (Yl z (Bs z Cj (l.oj m)) (Ro 11 (Wt a m ?_))));intro a;refine Rc 9 (WC.loopD (fun d h wl=>∃b e:Int,Kn 28 [(0,k),(1,.i b),(5,.i e)] h∧AJ w wl∧FZ g (fun b e=>(some b)) d b e=some j) n ?_ ?_)
 ·intro h f;exact⟨(wrap .i64 (i-((g.length:Int)))),0,f.sub z,AJ.refl _,a⟩
 ·rintro d h q ⟨b,e,f,c,a⟩;refine By f ?_;rcases d with _|d;exact Bx a;rw [FZ.eq_2]at a;have r:=c.size;refine Rc 5 (Yl z (Bs z Cj (l.oj c)) (Ro 3 (Wf a c ?_)));intro a;refine Rc 9 (Il a (l.oj c) Cj GW Dl ?_);rintro o a _;refine Yl z (Ep z Ri z) (Ro 10 (Wt a c ?_));intro a;refine Rc 9 ?_;intro h f;exact⟨d,nr,(wrap .i64 (b-((o.size:Int)))),(wrap .i64 (e+1)),f.sub z,c,a⟩
def RK(n:Nat)(a0:BG)(a1:Int):Option Int:=cond (decide (wrap .i64 (a1-((a0.Name.size:Int)))<0)) (some (-1)) (some (wrap .i64 (a1-((a0.Name.size:Int)))))
theorem AaE{a:BG}{d e:Int}(b:RK n a d=some e):
 Calls prog 90 [.agg #[.string a.Name,.i a.Dir,.i a.Net],.i d].toArray w (Ao (.i e) w):=by
 unfold RK at b;refine AA func90 z ntmps90 (Rc 2 (Ef z (AF z z) ?_));rintro _ g ⟨h,rfl,i,H,c,f⟩;have j:=c.size;refine Ro 6 (Fl RP Dl f (Yl z (Ep z Ri z) (Ro 11 (Wt b c ?_))));intro b;exact Iy b c
def FX(n:Nat)(a0:List BG)(k0:Int->Int->Option Int):Nat->Int->Int->Option Int
 |0,_,_=>none
 |m+1,c,b=>cond (decide (b<(a0.length:Int))) ((AE a0 b).bind fun d=>(RK n d c).bind fun a=>cond (decide (a<0)) (some (-1)) (FX n a0 k0 m a (wrap .i64 (b+1)))) (k0 c b)
def SB(n:Nat)(a0:List BG)(a1:Int):Option Int:=cond (decide (wrap .i64 (a1-((a0.length:Int)))<0)) (some (-1)) (FX n a0 (fun a b=>some a) n (wrap .i64 (a1-((a0.length:Int)))) 0)
theorem AbX{g:List BG}{i j:Int}{k:Value}(a:SB n g i=some j)(u:H<=w.heap.size)(l:AR C_Port w H g k):
 Calls prog 50 [k,.i i].toArray w (Ao (.i j) w):=by
 have o:=AJ.refl w;unfold SB at a;refine AA func50 z ntmps50 (Rc 9 (Yl z (Bs z TC (l.oj o)) (Ro 11 (Wt a o ?_))));intro a;refine Rc 9 (WC.loopD (fun c h wl=>∃d e:Int,Kn 27 [(0,k),(1,.i d),(5,.i e)] h∧AJ w wl∧FX n g (fun d e=>(some d)) c d e=some j) n ?_ ?_)
 ·intro h f;exact⟨(wrap .i64 (i-((g.length:Int)))),0,f.sub z,AJ.refl _,a⟩
 ·rintro c h v ⟨d,e,f,b,a⟩;refine By f ?_;rcases c with _|c;exact Bx a;rw [FX.eq_2]at a;have x:=b.size;refine Rc 5 (Yl z (Bs z TC (l.oj b)) (Ro 3 (Wf a b ?_)));intro a;refine Rc 8 (Ix a (l.oj b) TC PL ?_);rintro m y a _ ⟨A,B,C,rfl,D,p,q⟩;obtain rfl:=Br p;refine Yl z (CJ (us:=[.string m.Name,.i m.Dir,.i m.Net]) z ZV q PL) (Ro 1 ?_);refine Cs a b pR (fun _=>AaE) ?_;rintro r a E s ⟨t,F⟩;refine Ro 9 (Wt a t ?_);intro a;refine Rc 9 ?_;intro h f;exact⟨c,nr,r,(wrap .i64 (e+1)),f.sub z,(AJ.trans b s),a⟩
def SS(n:Nat)(a0:AP)(a1:Int):Option Int:=(TE n a0.Instances a1).bind fun c=>cond (decide (c<0)) (some (-1)) ((Sf n a0.Nets c).bind fun b=>cond (decide (b<0)) (some (-1)) ((SB n a0.Ports b).bind fun a=>cond (decide (a<0)) (some (-1)) (some a)))
theorem xR{d:AP}{h i:Int}{j k l:Value}(a:SS n d h=some i)(t:H<=w.heap.size)(o:AR C_Instance w H d.Instances j)(p:AR At w H d.Nets k)(q:AR C_Port w H d.Ports l):
 Calls prog 19 [.agg #[j,k,l],.i h].toArray w (Ao (.i i) w):=by
 unfold SS at a;refine AA func19 z ntmps19 (Rc 2 (Ef z (AF z z) ?_));rintro _ u ⟨v,rfl,x,y,e,b⟩;have A:=e.size;refine Ro 5 (Fl Th eZ b (Ro 1 ?_));refine Cs a e rQ (fun _ c=>(AbQ c (by omega) (o.oj e):)) ?_;rintro B a C r ⟨f,D⟩;have b:=b.ext r;refine Ro 10 (Wt a f ?_);intro a;refine Rc 4 (Fl Tg GE b (Ro 1 ?_));refine Cs a f rA (fun _ c=>(AaJ c (by omega) (p.oj f):)) ?_;rintro E a F s ⟨g,G⟩;have b:=b.ext s;refine Ro 10 (Wt a g ?_);intro a;refine Rc 4 (Fl Tp gH b (Ro 1 ?_));refine Cs a g tA (fun _ c=>(AbX c (by omega) (q.oj g):)) ?_;rintro I a J K ⟨m,L⟩;refine Ro 10 (Wt a m ?_);intro a;exact Iy a m
def Qi(n:Nat)(a0:Ar)(a1:Int):Option Int:=(SK n a0.Parent a1).bind fun a=>cond (decide (a<0)) (some (-1)) ((SK n a0.Res a).bind fun d=>cond (decide (d<0)) (some (-1)) ((SK n a0.Cap d).bind fun c=>cond (decide (c<0)) (some (-1)) ((SK n a0.Sink c).bind fun b=>cond (decide (b<0)) (some (-1)) (some b))))
theorem zE{d:Ar}{i j:Int}{k l m o:Value}(a:Qi n d i=some j)(y:H<=w.heap.size)(q:AR (AL .i64) w H d.Parent k)(r:AR (AL .i64) w H d.Res l)(s:AR (AL .i64) w H d.Cap m)(t:AR (AL .i64) w H d.Sink o):
 Calls prog 51 [.agg #[k,l,m,o],.i i].toArray w (Ao (.i j) w):=by
 unfold Qi at a;refine AA func51 z ntmps51 (Rc 2 (Ef z (AF z z) ?_));rintro _ A ⟨B,rfl,C,D,e,b⟩;have E:=e.size;refine Ro 5 (Fl Qh Ad b (Ro 1 ?_));refine Cs a e Lr (fun _ c=>(dD c (by omega) (q.oj e):)) ?_;rintro F a G u ⟨f,I⟩;have b:=b.ext u;refine Ro 10 (Wt a f ?_);intro a;refine Rc 4 (Fl Qt Ad b (Ro 1 ?_));refine Cs a f Lr (fun _ c=>(dD c (by omega) (r.oj f):)) ?_;rintro J a K v ⟨g,L⟩;have b:=b.ext v;refine Ro 10 (Wt a g ?_);intro a;refine Rc 4 (Fl Qj Ad b (Ro 1 ?_));refine Cs a g Lr (fun _ c=>(dD c (by omega) (s.oj g):)) ?_;rintro M a N x ⟨h,O⟩;have b:=b.ext x;refine Ro 10 (Wt a h ?_);intro a;refine Rc 4 (Fl Pp Ad b (Ro 1 ?_));refine Cs a h Lr (fun _ c=>(dD c (by omega) (t.oj h):)) ?_;rintro P a Q R ⟨p,S⟩;refine Ro 10 (Wt a p ?_);intro a;exact Iy a p
def Fb(n:Nat)(a0:List Ar)(k0:Int->Int->Option Int):Nat->Int->Int->Option Int
 |0,_,_=>none
 |m+1,c,b=>cond (decide (b<(a0.length:Int))) ((AE a0 b).bind fun d=>(Qi n d c).bind fun a=>cond (decide (a<0)) (some (-1)) (Fb n a0 k0 m a (wrap .i64 (b+1)))) (k0 c b)
def SG(n:Nat)(a0:List Ar)(a1:Int):Option Int:=cond (decide (wrap .i64 (a1-((a0.length:Int)))<0)) (some (-1)) (Fb n a0 (fun a b=>some a) n (wrap .i64 (a1-((a0.length:Int)))) 0)
theorem xZ{g:List Ar}{i j:Int}{k:Value}(a:SG n g i=some j)(E:H<=w.heap.size)(l:AR C_Wire w H g k):
 Calls prog 20 [k,.i i].toArray w (Ao (.i j) w):=by
 have m:=AJ.refl w;unfold SG at a;refine AA func20 z ntmps20 (Rc 9 (Yl z (Bs z SZ (l.oj m)) (Ro 11 (Wt a m ?_))));intro a;refine Rc 9 (WC.loopD (fun c h wl=>∃d e:Int,Kn 27 [(0,k),(1,.i d),(5,.i e)] h∧AJ w wl∧Fb n g (fun d e=>(some d)) c d e=some j) n ?_ ?_)
 ·intro h f;exact⟨(wrap .i64 (i-((g.length:Int)))),0,f.sub z,AJ.refl _,a⟩
 ·rintro c h F ⟨d,e,f,b,a⟩;refine By f ?_;rcases c with _|c;exact Bx a;rw [Fb.eq_2]at a;have G:=b.size;refine Rc 5 (Yl z (Bs z SZ (l.oj b)) (Ro 3 (Wf a b ?_)));intro a;refine Rc 8 (Ix a (l.oj b) SZ Pk ?_);rintro I J a _ ⟨K,L,M,rfl,N,o,p⟩;obtain⟨q,r,s,t,rfl,u,v,x,y⟩:=Cp o;refine Yl z (CJ (us:=[q,r,s,t]) z XA p Pk) (Ro 1 ?_);refine Cs a b rX (fun _ A=>(zE A (by omega) u v x y:)) ?_;rintro B a O C ⟨D,P⟩;refine Ro 9 (Wt a D ?_);intro a;refine Rc 9 ?_;intro h f;exact⟨c,nr,B,(wrap .i64 (e+1)),f.sub z,(AJ.trans b C),a⟩
def Rp(n:Nat)(a0:AQ)(a1:Int):Option Int:=(SV n a0.Library a1).bind fun b=>cond (decide (b<0)) (some (-1)) ((SS n a0.Design b).bind fun c=>cond (decide (c<0)) (some (-1)) ((SG n a0.Wires c).bind fun a=>cond (decide (a<0)) (some (-1)) (some a)))
theorem AbO{c:AQ}{l m:Int}{f g h i o:Value}(a:Rp n c l=some m)(y:H<=w.heap.size)(q:AR C_Cell w H c.Library.Cells f)(r:AR C_Instance w H c.Design.Instances g)(s:AR At w H c.Design.Nets h)(t:AR C_Port w H c.Design.Ports i)(u:AR C_Wire w H c.Wires o):
 Calls prog 4 [.agg #[f,g,h,i,o],.i l].toArray w (Ao (.i m) w):=by
 unfold Rp at a;refine AA func4 z ntmps4 (Rc 2 (Ef z (AF z z) ?_));rintro _ A ⟨B,rfl,C,D,j,b⟩;have E:=j.size;refine Ro 5 (Yl z (BF z Te) (Yl z (CJ (us:=[f]) z fU (AM.sub (BK.cells b) 0 1:AM _ _ _ [f]) fA) (Ro 1 ?_)));refine Cs a j sL (fun _ d=>(AaU d (by omega) (q.oj j):)) ?_;rintro F a G v ⟨e,I⟩;have b:=b.ext v;refine Ro 10 (Wt a e ?_);intro a;refine Rc 4 (Yl z (BF z UB) (Yl z (CJ (us:=[g,h,i]) z fM (AM.sub (BK.cells b) 1 3:AM _ _ _ [g,h,i]) gF) (Ro 1 ?_)));refine Cs a e tL (fun _ d=>(xR d (by omega) (r.oj e) (s.oj e) (t.oj e):)) ?_;rintro J a K x ⟨k,L⟩;have b:=b.ext x;refine Ro 10 (Wt a k ?_);intro a;refine Rc 4 (Fl TT gG b (Ro 1 ?_));refine Cs a k uD (fun _ d=>(xZ d (by omega) (u.oj k):)) ?_;rintro M a N O ⟨p,P⟩;refine Ro 10 (Wt a p ?_);intro a;exact Iy a p
def Xi(n:Nat)(a0:List Bool)(a1:Int):Option Int:=cond (decide (wrap .i64 (a1-((a0.length:Int)))<0)) (some (-1)) (some (wrap .i64 (a1-((a0.length:Int)))))
theorem AcE{c:List Bool}{d e:Int}{f:Value}(a:Xi n c d=some e)(h:H<=w.heap.size)(g:AR BH w H c f):
 Calls prog 21 [f,.i d].toArray w (Ao (.i e) w):=by
 have b:=AJ.refl w;unfold Xi at a;refine AA func21 z ntmps21 (Rc 9 (Yl z (Bs z GA (g.oj b)) (Ro 11 (Wt a b ?_))));intro a;exact Iy a b
def Ub(n:Nat)(a0:List AV)(a1:Int):Option Int:=cond (decide (wrap .i64 (a1-((a0.length:Int)))<0)) (some (-1)) (some (wrap .i64 (a1-((a0.length:Int)))))
theorem rH{c:List AV}{d e:Int}{f:Value}(a:Ub n c d=some e)(h:H<=w.heap.size)(g:AR C_Span w H c f):
 Calls prog 22 [f,.i d].toArray w (Ao (.i e) w):=by
 have b:=AJ.refl w;unfold Ub at a;refine AA func22 z ntmps22 (Rc 9 (Yl z (Bs z WK (g.oj b)) (Ro 11 (Wt a b ?_))));intro a;exact Iy a b
def XF(n:Nat)(a0:Ac)(a1:Int):Option Int:=(Xi n a0.Reached a1).bind fun c=>cond (decide (c<0)) (some (-1)) ((Ub n a0.Arrival c).bind fun b=>cond (decide (b<0)) (some (-1)) ((Ub n a0.Slew b).bind fun a=>cond (decide (a<0)) (some (-1)) (some a)))
theorem wK{d:Ac}{h i:Int}{j k l:Value}(a:XF n d h=some i)(t:H<=w.heap.size)(o:AR BH w H d.Reached j)(p:AR C_Span w H d.Arrival k)(q:AR C_Span w H d.Slew l):
 Calls prog 5 [.agg #[j,k,l],.i h].toArray w (Ao (.i i) w):=by
 unfold XF at a;refine AA func5 z ntmps5 (Rc 2 (Ef z (AF z z) ?_));rintro _ u ⟨v,rfl,x,y,e,b⟩;have A:=e.size;refine Ro 5 (Fl TO Gy b (Ro 1 ?_));refine Cs a e oR (fun _ c=>(AcE c (by omega) (o.oj e):)) ?_;rintro B a C r ⟨f,D⟩;have b:=b.ext r;refine Ro 10 (Wt a f ?_);intro a;refine Rc 4 (Fl Ty Tn b (Ro 1 ?_));refine Cs a f fB (fun _ c=>(rH c (by omega) (p.oj f):)) ?_;rintro E a F s ⟨g,G⟩;have b:=b.ext s;refine Ro 10 (Wt a g ?_);intro a;refine Rc 4 (Fl Ta Tn b (Ro 1 ?_));refine Cs a g fB (fun _ c=>(rH c (by omega) (q.oj g):)) ?_;rintro I a J K ⟨m,L⟩;refine Ro 10 (Wt a m ?_);intro a;exact Iy a m
def MF(a0:List Int)(k0:Int->(List Int)->Option (List Int)):Nat->Int->(List Int)->Option (List Int)
 |0,_,_=>none
 |m+1,a,b=>cond (decide (a<(a0.length:Int))) ((AE a0 a).bind fun c=>(AE b a).bind fun d=>MF a0 k0 m (wrap .i64 (a+1)) ((b.set (a).toNat c))) (k0 a b)
def Uh(n:Nat)(a0:List Int):Option (List Int):=(MY ((a0.length:Int)) 8).bind fun b=>MF a0 (fun c a=>some a) n 0 (List.replicate b 0)
theorem cA{h i:List Int}{j:Value}(a:Uh n h=some i)(O:H<=w.heap.size)(k:AR (AL .i64) w H h j):
 Calls prog 101 [j].toArray w (DA fun v o=>∃p,v=p∧AB (AL .i64) o w.heap.size (Iv 0 0) 2 i p∧AJ w o):=by
 have x:=AJ.refl w;unfold Uh at a;refine AA func101 z ntmps101 (Rc 8 (Yl z (Bs z Af (k.oj x)) ?_));have⟨y,A,a⟩:=AH a;refine Ef z (CW (c:=(AL .i64)) (z:=0) z Af GU z z z A z z (fun _=>z)) ?_;rintro q B ⟨C,r,P,Q,s,D⟩;have R:=s.size;have E:=BT r;clear r;refine Ro 10 (WC.loopD (fun d f wl=>∃(b:Int) (c:List Int),Kn 22 [(0,j),(3,q),(4,.i b)] f∧AJ w wl∧B.heap.size<=wl.heap.size∧AB (AL .i64) wl (C) (Iv 0 0) 2 c q∧MF h (fun b c=>(some c)) d b c=some i) n ?_ ?_)
 ·intro f e;exact⟨0,(List.replicate y 0),e.sub z,s,nr,D,a⟩
 ·rintro d f S ⟨b,c,e,g,T,l,a⟩;refine By e ?_;rcases d with _|d;exact Bx a;rw [MF.eq_2]at a;refine Rc 5 (Yl z (Bs z Af (k.oj g)) (Ro 3 (Wc z a ?_ ?_)))
  ·intro a;refine Rc 9 (Il a (k.oj g) Af Ap AI ?_);rintro m a _;refine Io a l Af Ap ?_;rintro U F a _ ⟨V,W,rfl,t,u,G⟩;have I:=u;obtain rfl:=u;refine Ef z (Ag (c:=(AL .i64)) (us':=[.i m]) (y':=m) 0 _ z z z l t F z Ap z I G z z z (fun J K=>absurd K.2 (Nat.not_lt_zero J))) ?_;rintro _ X ⟨L,M⟩;have⟨N,Y⟩:=Eu g L (by have:=E _ t;omega);refine Ro 9 ?_;intro f e;exact⟨d,nr,(wrap .i64 (b+1)),((c.set (b).toNat m)),e.sub z,N,(by omega),M,a⟩
  ·intro a;cases BQ a;exact Rc 12 (Ne z z ⟨_,z,_,z,AB.base l,g⟩)
def Wn(n:Nat)(a0:BD):Option BD:=some a0
theorem AbF{d e:BD}(hF:Wn n d=some e):
 Calls prog 156 [.agg #[.string d.Name,.i d.Dir,.i d.Cap,.bool d.Clock]].toArray w (DA fun m f=>m= .agg #[.string e.Name,.i e.Dir,.i e.Cap,.bool e.Clock]∧AJ w f):=by
 unfold Wn at hF;refine AA func156 z ntmps156 (Rc 2 (Ef z (AF z z) ?_));rintro _ f ⟨D,rfl,E,F,g,a⟩;have G:=g.size;refine Ef z (AY z My) ?_;rintro _ I ⟨J,rfl,K,L,h,b⟩;have⟨o,M⟩:=Et g h;have a:=a.ext h;refine Ro 4 (Ef z (AY z My) ?_);rintro _ N ⟨O,rfl,P,Q,i,c⟩;have⟨p,R⟩:=Et o i;have⟨a,b⟩:=CB a b i;refine Ro 4 (Fl Qw Dl a (Yl z (BF z Fj) (Ef z (Cu z c GW z z) ?_)));rintro _ S ⟨j,q⟩;have⟨r,T⟩:=Eu p j;have⟨a,b⟩:=Ky a b j;have c:=q;refine Ro 4 (Fl Wg AI a (Yl z (BF z Fh) (Ef z (Cu z c Ap z z) ?_)));rintro _ U ⟨H,s⟩;have⟨t,V⟩:=Eu r H;have⟨a,b⟩:=Ky a b H;have c:=s;refine Ro 4 (Fl WW AI a (Yl z (BF z Es) (Ef z (Cu z c Ap z z) ?_)));rintro _ W ⟨k,u⟩;have⟨v,X⟩:=Eu t k;have⟨a,b⟩:=Ky a b k;have c:=u;refine Ro 4 (Fl XZ Ed a (Yl z (BF z CX) (Ef z (Cu z c Ku z z) ?_)));rintro _ Y ⟨l,x⟩;have⟨y,Z⟩:=Eu v l;have b:=b.upd l (by omega);have c:=x;refine Ro 4 (Yl z (CC z JF c Bt) (Ef z (Cu z b Bt z z) ?_));rintro _ a0 ⟨A,B⟩;have⟨C,b0⟩:=Eu y A;have b:=B;obtain rfl:=(Sy hF);exact Ro 3 (UW b JF Bt ⟨_,z,z,C⟩)
def KE(n:Nat)(a0:List BD)(k0:Int->(List BD)->Option (List BD)):Nat->Int->(List BD)->Option (List BD)
 |0,_,_=>none
 |m+1,a,b=>cond (decide (a<(a0.length:Int))) ((AE a0 a).bind fun d=>(Wn n d).bind fun c=>(AE b a).bind fun e=>KE n a0 k0 m (wrap .i64 (a+1)) ((b.set (a).toNat c))) (k0 a b)
def YJ(n:Nat)(a0:List BD):Option (List BD):=(MY ((a0.length:Int)) 40).bind fun b=>KE n a0 (fun c a=>some a) n 0 (List.replicate b ((BD.mk ByteArray.empty 0 0 false)))
theorem wE{i j:List BD}{k:Value}(hF:YJ n i=some j)(hH:H<=w.heap.size)(l:AR C_Pin w H i k):
 Calls prog 130 [k].toArray w (DA fun x o=>∃p,x=p∧AB C_Pin o w.heap.size (Iv 0 0) 236 j p∧AJ w o):=by
 have y:=AJ.refl w;unfold YJ at hF;refine AA func130 z ntmps130 (Rc 8 (Yl z (Bs z Nk (l.oj y)) ?_));have⟨A,B,hF⟩:=AH hF;refine Ef z (CW (c:=C_Pin) (z:=(BD.mk ByteArray.empty 0 0 false)) z CU iR z z z B z z (fun _=>QZ)) ?_;rintro q C ⟨D,r,R,S,s,E⟩;have T:=s.size;have F:=BT r;clear r;refine Ro 10 (WC.loopD (fun d f wl=>∃(a:Int) (b:List BD),Kn 23 [(0,k),(3,q),(4,.i a)] f∧AJ w wl∧C.heap.size<=wl.heap.size∧AB C_Pin wl (D) (Iv 0 0) 236 b q∧KE n i (fun a b=>(some b)) d a b=some j) n ?_ ?_)
 ·intro f hK;exact⟨0,(List.replicate A ((BD.mk ByteArray.empty 0 0 false))),hK.sub z,s,nr,E,hF⟩
 ·rintro d f U ⟨a,b,hK,g,V,e,hF⟩;refine By hK ?_;rcases d with _|d;exact Bx hF;rw [KE.eq_2]at hF;refine Rc 5 (Yl z (Bs z Nk (l.oj g)) (Ro 3 (Wc z hF ?_ ?_)))
  ·intro hF;refine Rc 9 (Ix hF (l.oj g) Nk PN ?_);rintro h W hF _ ⟨X,Y,Z,rfl,a0,G,I⟩;obtain rfl:=Bg G;refine Yl z (CJ (us:=[.string h.Name,.i h.Dir,.i h.Cap,.bool h.Clock]) z XW I PN) ?_;refine Cg hF gX (fun _ m=>(AbF m:)) ?_;rintro c hF _ b0 ⟨rfl,t⟩;have⟨J,c0⟩:=Et g t;have e:=e.ext t;refine Io hF e CU Bt ?_;rintro d0 K hF _ ⟨e0,f0,rfl,u,v,L⟩;have M:=v;obtain rfl:=Bg v;refine Ef z (Ag (c:=C_Pin) (us':=[.string c.Name,.i c.Dir,.i c.Cap,.bool c.Clock]) (y':=c) 0 _ z z z e u K z Bt z M L z z QZ (fun N m=>absurd m.2 (Nat.not_lt_zero N))) ?_;rintro _ g0 ⟨O,P⟩;have⟨Q,h0⟩:=Eu J O (by have:=F _ u;omega);refine Ro 9 ?_;intro f hK;exact⟨d,nr,(wrap .i64 (a+1)),((b.set (a).toNat c)),hK.sub z,Q,(by omega),P,hF⟩
  ·intro hF;cases BQ hF;exact Rc 12 (Ne z z ⟨_,z,_,z,AB.base e,g⟩)
def Uq(n:Nat)(a0:AS):Option AS:=(Uh n a0.Slews).bind fun b=>(Uh n a0.Loads).bind fun a=>(Uh n a0.Values).bind fun c=>some ((AS.mk b a c))
theorem wF{k l:AS}{s t u:Value}(g:Uq n k=some l)(Z:H<=w.heap.size)(L:AR (AL .i64) w H k.Slews s)(M:AR (AL .i64) w H k.Loads t)(N:AR (AL .i64) w H k.Values u):
 Calls prog 198 [.agg #[s,t,u]].toArray w (DA fun O m=>∃o p q,O= .agg #[o,p,q]∧AB (AL .i64) m w.heap.size (Iv 0 0) 2 l.Slews o∧AB (AL .i64) m w.heap.size (Iv 0 0) 2 l.Loads p∧AB (AL .i64) m w.heap.size (Iv 0 0) 2 l.Values q∧No p o∧No q o∧No q p∧AJ w m):=by
 unfold Uq at g;refine AA func198 z ntmps198 (Rc 2 (Ef z (AF z z) ?_));rintro _ a0 ⟨b0,rfl,c0,d0,v,c⟩;have e0:=v.size;refine Ef z (AY z YC) ?_;rintro _ f0 ⟨g0,rfl,h0,i0,x,a⟩;have⟨P,j0⟩:=Et v x;have c:=c.ext x;refine Ro 4 (Ef z (AY z YC) ?_);rintro _ k0 ⟨l0,rfl,m0,n0,y,d⟩;have⟨A,o0⟩:=Et P y;have⟨c,a⟩:=CB c a y;refine Ro 4 (Fl Rh Ad c ?_);refine Cg g ID (fun _ i=>(cA i (by omega) (L.oj A):)) ?_;rintro p0 g q0 r0 ⟨_,rfl,b,B⟩;have⟨Q,s0⟩:=Et A B;have⟨c,a,d⟩:=FS c a d B;have h:=AB.blk b;refine Yl z (BF z EQ) (Ef z (BR z z z d GQ b.cells b.one z) ?_);rintro _ t0 ⟨C,R⟩;have⟨D,u0⟩:=Eu Q C;have⟨c,a,b⟩:=OS c a (Bi b h) C;have d:=R;refine Ro 4 (Fl RB Ad c ?_);refine Cg g ID (fun _ i=>(cA i (by omega) (M.oj D):)) ?_;rintro v0 g w0 x0 ⟨_,rfl,e,E⟩;have⟨S,y0⟩:=Et D E;have⟨c,a,d,b⟩:=JX c a d b E;have j:=AB.blk e;refine Yl z (BF z Dk) (Ef z (BR z z z d GQ e.cells e.one z) ?_);rintro _ z0 ⟨F,T⟩;have⟨G,A0⟩:=Eu S F;have⟨c,a,b,e⟩:=OK c a (Bi b h) (Bi e j) F;have d:=T;refine Ro 4 (Fl RR Ad c ?_);refine Cg g ID (fun _ i=>(cA i (by omega) (N.oj G):)) ?_;rintro B0 g C0 D0 ⟨_,rfl,f,I⟩;have⟨U,E0⟩:=Et G I;have⟨a,d,b,e⟩:=JX a d b e I;have r:=AB.blk f;refine Yl z (BF z CF) (Ef z (BR z z z d GQ f.cells f.one z) ?_);rintro _ F0 ⟨J,V⟩;have⟨W,G0⟩:=Eu U J;have⟨a,b,e,f⟩:=OK a (Bi b h) (Bi e j) (Bi f r) J;have d:=V;refine Ro 4 (Yl z (CC z HP d Cy) (Ef z (Cu z a Cy (AC b.one (AC e.one (AC f.one Aw))) z) ?_));rintro _ H0 ⟨K,X⟩;have⟨Y,I0⟩:=Eu W K;have⟨b,e,f⟩:=OS (Bi b h) (Bi e j) (Bi f r) K;have a:=X;cases BQ g;exact Ro 3 (UW a HP Cy ⟨_,z,_,_,_,z,AB.base b,AB.base e,AB.base f,(No.of j h),(No.of r h),(No.of r j),Y⟩)
def KF(n:Nat)(a0:List AS)(k0:Int->(List AS)->Option (List AS)):Nat->Int->(List AS)->Option (List AS)
 |0,_,_=>none
 |m+1,a,b=>cond (decide (a<(a0.length:Int))) ((AE a0 a).bind fun c=>(Uq n c).bind fun d=>(AE b a).bind fun e=>KF n a0 k0 m (wrap .i64 (a+1)) ((b.set (a).toNat d))) (k0 a b)
def UH(n:Nat)(a0:List AS):Option (List AS):=(MY ((a0.length:Int)) 72).bind fun b=>KF n a0 (fun c a=>some a) n 0 (List.replicate b ((AS.mk (([]:List Int)) (([]:List Int)) (([]:List Int)))))
theorem qN{k l:List AS}{m:Value}(hF:UH n k=some l)(hH:H<=w.heap.size)(o:AR C_Table w H k m):
 Calls prog 184 [m].toArray w (DA fun G p=>∃q,G=q∧AB C_Table p w.heap.size (SX w.heap.size p.heap.size q) 185 l q∧AJ w p):=by
 have I:=AJ.refl w;unfold UH at hF;refine AA func184 z ntmps184 (Rc 8 (Yl z (Bs z OF (o.oj I)) ?_));have⟨J,K,hF⟩:=AH hF;refine Ef z (CW (c:=C_Table) (z:=(AS.mk (([]:List Int)) (([]:List Int)) (([]:List Int)))) z GK kG z z z K z z (fun _=>NU (AD.nil _ _ _) (AD.nil _ _ _) (AD.nil _ _ _))) ?_;rintro r L ⟨A,s,f0,g0,B,t⟩;have h0:=B.size;have t:=AB.toN t s;have g:=BT s;clear s;refine Ro 10 (WC.loopD (fun f h wl=>∃(c:Int) (d:List AS),Kn 23 [(0,m),(3,r),(4,.i c)] h∧AJ w wl∧L.heap.size<=wl.heap.size∧AB C_Table wl (A) (SX (A) wl.heap.size r) 185 d r∧KF n k (fun c d=>(some d)) f c d=some l) n ?_ ?_)
 ·intro h hK;exact⟨0,(List.replicate J ((AS.mk (([]:List Int)) (([]:List Int)) (([]:List Int))))),hK.sub z,B,nr,(AB.wideN t),hF⟩
 ·rintro f h i0 ⟨c,d,hK,i,j0,j,hF⟩;refine By hK ?_;rcases f with _|f;exact Bx hF;rw [KF.eq_2]at hF;refine Rc 5 (Yl z (Bs z OF (o.oj i)) (Ro 3 (Wc z hF ?_ ?_)))
  ·intro hF;refine Rc 9 (Ix hF (o.oj i) OF PS ?_);rintro k0 l0 hF _ ⟨m0,n0,o0,rfl,p0,M,N⟩;obtain⟨O,P,Q,rfl,R,S,T⟩:=Co M;refine Yl z (CJ (us:=[O,P,Q]) z WF N PS) ?_;refine Cg hF hY (fun _ a=>(wF a (by omega) R S T:)) ?_;rintro C hF _ U ⟨V,W,X,rfl,u,v,x,q0,r0,s0,D⟩;have⟨Y,t0⟩:=Et i D;have j:=j.extN D (by omega);have u0:=AB.blk u;have v0:=AB.blk v;have w0:=AB.blk x;have E:=AB.wideN (hi':=U.heap.size) j;refine Io hF E GK Cy ?_;rintro x0 Z hF _ ⟨y0,z0,rfl,y,F,a0⟩;have b0:=F;obtain⟨A0,B0,C0,rfl,D0,E0,F0⟩:=Co F;refine Ef z (Ag (c:=C_Table) (us':=[V,W,X]) (y':=C) 0 _ z z z E y Z z Cy (AC u.one (AC v.one (AC x.one Aw))) b0 a0 z z (NU ((AB.slf u nr nr).mono (fun e a=>⟨by have:=a.1;omega,by have:=a.2;omega,fun b=>by have:=g e b;have:=a.1;have:=a.2;omega⟩) (fun _ _=>z)) ((AB.slf v nr nr).mono (fun e a=>⟨by have:=a.1;omega,by have:=a.2;omega,fun b=>by have:=g e b;have:=a.1;have:=a.2;omega⟩) (fun _ _=>z)) ((AB.slf x nr nr).mono (fun e a=>⟨by have:=a.1;omega,by have:=a.2;omega,fun b=>by have:=g e b;have:=a.1;have:=a.2;omega⟩) (fun _ _=>z))) (fun e a b=>a.2.2 (b▸y))) ?_;rintro _ G0 ⟨c0,d0⟩;have⟨e0,H0⟩:=Eu Y c0 (by have:=g _ y;omega);refine Ro 9 ?_;intro h hK;exact⟨f,nr,(wrap .i64 (c+1)),((d.set (c).toNat C)),hK.sub z,e0,(by omega),(AB.wideN d0),hF⟩
  ·intro hF;cases BQ hF;exact Rc 12 (Ne z z ⟨_,z,_,z,AB.baseN (AB.wideN j),i⟩)
def VC(n:Nat)(a0:Ah):Option Ah:=(UH n a0.Delay).bind fun b=>(UH n a0.Slew).bind fun a=>some ((Ah.mk a0.Kind a0.From a0.To a0.Sense b a))
theorem AbW{f g:Ah}{p q:Value}(h:VC n f=some g)(b0:H<=w.heap.size)(I:AR C_Table w H f.Delay p)(J:AR C_Table w H f.Slew q):
 Calls prog 157 [.agg #[.i f.Kind,.i f.From,.i f.To,.i f.Sense,p,q]].toArray w (DA fun K i=>∃j k,K= .agg #[.i g.Kind,.i g.From,.i g.To,.i g.Sense,j,k]∧AB C_Table i w.heap.size (SX w.heap.size i.heap.size j) 185 g.Delay j∧AB C_Table i w.heap.size (SX w.heap.size i.heap.size k) 185 g.Slew k∧No k j∧AJ w i):=by
 unfold VC at h;refine AA func157 z ntmps157 (Rc 2 (Ef z (AF z z) ?_));rintro _ c0 ⟨d0,rfl,e0,f0,r,a⟩;have g0:=r.size;refine Ef z (AY z Ew) ?_;rintro _ h0 ⟨i0,rfl,j0,k0,s,b⟩;have⟨L,l0⟩:=Et r s;have a:=a.ext s;refine Ro 4 (Ef z (AY z Ew) ?_);rintro _ m0 ⟨n0,rfl,o0,p0,t,c⟩;have⟨M,q0⟩:=Et L t;have⟨a,b⟩:=CB a b t;refine Ro 4 (Fl XH AI a (Yl z (BF z Bo) (Ef z (Cu z c Ap z z) ?_)));rintro _ r0 ⟨u,N⟩;have⟨O,s0⟩:=Eu M u;have⟨a,b⟩:=Ky a b u;have c:=N;refine Ro 4 (Fl Ym AI a (Yl z (BF z Cb) (Ef z (Cu z c Ap z z) ?_)));rintro _ t0 ⟨v,P⟩;have⟨Q,u0⟩:=Eu O v;have⟨a,b⟩:=Ky a b v;have c:=P;refine Ro 4 (Fl ZC AI a (Yl z (BF z Bv) (Ef z (Cu z c Ap z z) ?_)));rintro _ v0 ⟨x,R⟩;have⟨S,w0⟩:=Eu Q x;have⟨a,b⟩:=Ky a b x;have c:=R;refine Ro 4 (Fl WY AI a (Yl z (BF z DF) (Ef z (Cu z c Ap z z) ?_)));rintro _ x0 ⟨y,T⟩;have⟨A,y0⟩:=Eu S y;have⟨a,b⟩:=Ky a b y;have c:=T;refine Ro 4 (Fl RY Pn a ?_);refine Cg h WL (fun _ m=>(qN m (by omega) (I.oj A):)) ?_;rintro z0 h A0 B0 ⟨_,rfl,d,B⟩;have⟨U,C0⟩:=Et A B;have⟨a,b,c⟩:=FS a b c B;have l:=AB.blk d;refine Yl z (BF z Db) (Ef z (BR z z z c fE (AD.cells (AB.slN d nr nr)) (AD.one (AB.slN d nr nr)) z) ?_);rintro _ D0 ⟨C,V⟩;have⟨D,E0⟩:=Eu U C;have⟨a,b,d⟩:=OS a b (Bi d l) C;have c:=V;refine Ro 4 (Fl Pv Pn a ?_);refine Cg h WL (fun _ m=>(qN m (by omega) (J.oj D):)) ?_;rintro F0 h G0 H0 ⟨_,rfl,e,E⟩;have⟨W,I0⟩:=Et D E;have⟨b,c,d⟩:=FS b c d E;have o:=AB.blk e;refine Yl z (BF z EN) (Ef z (BR z z z c fE (AD.cells (AB.slN e nr nr)) (AD.one (AB.slN e nr nr)) z) ?_);rintro _ J0 ⟨F,X⟩;have⟨Y,K0⟩:=Eu W F;have⟨b,d,e⟩:=OS b (Bi d l) (Bi e o) F;have c:=X;refine Ro 4 (Yl z (CC z Dz c BL) (Ef z (Cu z b BL (AC z (AC z (AC z (AC z (AC (AD.one (AB.slN d nr nr)) (AC (AD.one (AB.slN e nr nr)) Aw)))))) z) ?_));rintro _ L0 ⟨G,Z⟩;have⟨a0,M0⟩:=Eu Y G;have⟨d,e⟩:=Ky (Bi d l) (Bi e o) G;have b:=Z;cases BQ h;exact Ro 3 (UW b Dz BL ⟨_,z,_,_,z,AB.baseN (AB.wideN d),AB.baseN (AB.wideN e),(No.of o l),a0⟩)
def KA(n:Nat)(a0:List Ah)(k0:Int->(List Ah)->Option (List Ah)):Nat->Int->(List Ah)->Option (List Ah)
 |0,_,_=>none
 |m+1,a,b=>cond (decide (a<(a0.length:Int))) ((AE a0 a).bind fun c=>(VC n c).bind fun d=>(AE b a).bind fun e=>KA n a0 k0 m (wrap .i64 (a+1)) ((b.set (a).toNat d))) (k0 a b)
def ZA(n:Nat)(a0:List Ah):Option (List Ah):=(MY ((a0.length:Int)) 80).bind fun b=>KA n a0 (fun c a=>some a) n 0 (List.replicate b ((Ah.mk 0 0 0 0 (([]:List AS)) (([]:List AS)))))
theorem xK{l m:List Ah}{o:Value}(hF:ZA n l=some m)(hH:H<=w.heap.size)(p:AR C_Arc w H l o):
 Calls prog 131 [o].toArray w (DA fun G q=>∃r,G=r∧AB C_Arc q w.heap.size (SX w.heap.size q.heap.size r) 88 m r∧AJ w q):=by
 have I:=AJ.refl w;unfold ZA at hF;refine AA func131 z ntmps131 (Rc 8 (Yl z (Bs z Np (p.oj I)) ?_));have⟨J,K,hF⟩:=AH hF;refine Ef z (CW (c:=C_Arc) (z:=(Ah.mk 0 0 0 0 (([]:List AS)) (([]:List AS)))) z Bj uE z z z K z z (fun _=>Px (AD.nil _ _ _) (AD.nil _ _ _))) ?_;rintro s L ⟨B,t,c0,d0,C,u⟩;have e0:=C.size;have u:=AB.toN u t;have v:=BT t;clear t;refine Ro 10 (WC.loopD (fun e g wl=>∃(b:Int) (c:List Ah),Kn 23 [(0,o),(3,s),(4,.i b)] g∧AJ w wl∧L.heap.size<=wl.heap.size∧AB C_Arc wl (B) (SX (B) wl.heap.size s) 88 c s∧KA n l (fun b c=>(some c)) e b c=some m) n ?_ ?_)
 ·intro g hK;exact⟨0,(List.replicate J ((Ah.mk 0 0 0 0 (([]:List AS)) (([]:List AS))))),hK.sub z,C,nr,(AB.wideN u),hF⟩
 ·rintro e g f0 ⟨b,c,hK,h,g0,i,hF⟩;refine By hK ?_;rcases e with _|e;exact Bx hF;rw [KA.eq_2]at hF;refine Rc 5 (Yl z (Bs z Np (p.oj h)) (Ro 3 (Wc z hF ?_ ?_)))
  ·intro hF;refine Rc 9 (Ix hF (p.oj h) Np PH ?_);rintro j h0 hF _ ⟨i0,j0,k0,rfl,l0,M,N⟩;obtain⟨O,P,rfl,Q,R⟩:=BP M;refine Yl z (CJ (us:=[.i j.Kind,.i j.From,.i j.To,.i j.Sense,O,P]) z Zu N PH) ?_;refine Cg hF mF (fun _ a=>(AbW a (by omega) Q R:)) ?_;rintro d hF _ S ⟨T,U,rfl,x,y,m0,D⟩;have⟨V,n0⟩:=Et h D;have i:=i.extN D (by omega);have o0:=AB.blk x;have p0:=AB.blk y;have E:=AB.wideN (hi':=S.heap.size) i;refine Io hF E Bj BL ?_;rintro q0 W hF _ ⟨r0,s0,rfl,A,F,X⟩;have Y:=F;obtain⟨t0,u0,rfl,v0,w0⟩:=BP F;refine Ef z (Ag (c:=C_Arc) (us':=[.i d.Kind,.i d.From,.i d.To,.i d.Sense,T,U]) (y':=d) 0 _ z z z E A W z BL (AC z (AC z (AC z (AC z (AC (AD.one (AB.slN x nr nr)) (AC (AD.one (AB.slN y nr nr)) Aw)))))) Y X z z (Px ((AB.slN x nr nr).mono (fun k a=>⟨by have:=a.1;omega,by have:=a.2;omega,fun f=>by have:=v k f;have:=a.1;have:=a.2;omega⟩) (fun _ _=>z)) ((AB.slN y nr nr).mono (fun k a=>⟨by have:=a.1;omega,by have:=a.2;omega,fun f=>by have:=v k f;have:=a.1;have:=a.2;omega⟩) (fun _ _=>z))) (fun k a f=>a.2.2 (f▸A))) ?_;rintro _ x0 ⟨Z,a0⟩;have⟨b0,y0⟩:=Eu V Z (by have:=v _ A;omega);refine Ro 9 ?_;intro g hK;exact⟨e,nr,(wrap .i64 (b+1)),((c.set (b).toNat d)),hK.sub z,b0,(by omega),(AB.wideN a0),hF⟩
  ·intro hF;cases BQ hF;exact Rc 12 (Ne z z ⟨_,z,_,z,AB.baseN (AB.wideN i),h⟩)
def VH(n:Nat)(a0:AX):Option AX:=(YJ n a0.Pins).bind fun b=>(ZA n a0.Arcs).bind fun a=>(Uh n a0.Truth).bind fun c=>some ((AX.mk a0.Name a0.Kind b a c a0.Leak a0.Energy))
theorem zG{g h:AX}{s t u:Value}(i:VH n g=some h)(l0:H<=w.heap.size)(P:AR C_Pin w H g.Pins s)(Q:AR C_Arc w H g.Arcs t)(R:AR (AL .i64) w H g.Truth u):
 Calls prog 98 [.agg #[.string g.Name,.i g.Kind,s,t,u,.i g.Leak,.i g.Energy]].toArray w (DA fun S m=>∃q o r,S= .agg #[.string h.Name,.i h.Kind,q,o,r,.i h.Leak,.i h.Energy]∧AB C_Pin m w.heap.size (Iv 0 0) 236 h.Pins q∧AB C_Arc m w.heap.size (SX w.heap.size m.heap.size o) 88 h.Arcs o∧AB (AL .i64) m w.heap.size (Iv 0 0) 2 h.Truth r∧No o q∧No r q∧No r o∧AJ w m):=by
 unfold VH at i;refine AA func98 z ntmps98 (Rc 2 (Ef z (AF z z) ?_));rintro _ m0 ⟨n0,rfl,o0,p0,v,a⟩;have q0:=v.size;refine Ef z (AY z NF) ?_;rintro _ r0 ⟨s0,rfl,t0,u0,x,b⟩;have⟨T,v0⟩:=Et v x;have a:=a.ext x;refine Ro 4 (Ef z (AY z NF) ?_);rintro _ w0 ⟨x0,rfl,y0,z0,y,c⟩;have⟨U,A0⟩:=Et T y;have⟨a,b⟩:=CB a b y;refine Ro 4 (Fl Qx Dl a (Yl z (BF z Eh) (Ef z (Cu z c GW z z) ?_)));rintro _ B0 ⟨A,V⟩;have⟨W,C0⟩:=Eu U A;have⟨a,b⟩:=Ky a b A;have c:=V;refine Ro 4 (Fl Xt AI a (Yl z (BF z Ek) (Ef z (Cu z c Ap z z) ?_)));rintro _ D0 ⟨B,X⟩;have⟨C,E0⟩:=Eu W B;have⟨a,b⟩:=Ky a b B;have c:=X;refine Ro 4 (Fl QK ZL a ?_);refine Cg i kV (fun _ p=>(wE p (by omega) (P.oj C):)) ?_;rintro F0 i G0 H0 ⟨_,rfl,d,D⟩;have⟨Y,I0⟩:=Et C D;have⟨a,b,c⟩:=FS a b c D;have j:=AB.blk d;refine Yl z (BF z Bk) (Ef z (BR z z z c iN d.cells d.one z) ?_);rintro _ J0 ⟨E,Z⟩;have⟨F,K0⟩:=Eu Y E;have⟨a,b,d⟩:=OS a b (Bi d j) E;have c:=Z;refine Ro 4 (Fl RD Vy a ?_);refine Cg i iK (fun _ p=>(xK p (by omega) (Q.oj F):)) ?_;rintro L0 i M0 N0 ⟨_,rfl,e,G⟩;have⟨a0,O0⟩:=Et F G;have⟨a,b,c,d⟩:=JX a b c d G;have k:=AB.blk e;refine Yl z (BF z Be) (Ef z (BR z z z c mG (AD.cells (AB.slN e nr nr)) (AD.one (AB.slN e nr nr)) z) ?_);rintro _ P0 ⟨I,b0⟩;have⟨J,Q0⟩:=Eu a0 I;have⟨a,b,d,e⟩:=OK a b (Bi d j) (Bi e k) I;have c:=b0;refine Ro 4 (Fl Qn Ad a ?_);refine Cg i ID (fun _ p=>(cA p (by omega) (R.oj J):)) ?_;rintro R0 i S0 T0 ⟨_,rfl,f,K⟩;have⟨c0,U0⟩:=Et J K;have⟨a,b,c,d,e⟩:=Ee a b c d e K;have l:=AB.blk f;refine Yl z (BF z DS) (Ef z (BR z z z c GQ f.cells f.one z) ?_);rintro _ V0 ⟨L,d0⟩;have⟨e0,W0⟩:=Eu c0 L;have⟨a,b,d,e,f⟩:=Ou a b (Bi d j) (Bi e k) (Bi f l) L;have c:=d0;refine Ro 4 (Fl XJ AI a (Yl z (BF z Ha) (Ef z (Cu z c Ap z z) ?_)));rintro _ X0 ⟨M,f0⟩;have⟨g0,Y0⟩:=Eu e0 M;have⟨a,b,d,e,f⟩:=Ou a b (Bi d j) (Bi e k) (Bi f l) M;have c:=f0;refine Ro 4 (Fl Zn AI a (Yl z (BF z Hd) (Ef z (Cu z c Ap z z) ?_)));rintro _ Z0 ⟨N,h0⟩;have⟨i0,a1⟩:=Eu g0 N;have⟨b,d,e,f⟩:=OK b (Bi d j) (Bi e k) (Bi f l) N;have c:=h0;refine Ro 4 (Yl z (CC z CI c BA) (Ef z (Cu z b BA (AC z (AC z (AC d.one (AC (AD.one (AB.slN e nr nr)) (AC f.one (AC z (AC z Aw))))))) z) ?_));rintro _ b1 ⟨O,j0⟩;have⟨k0,c1⟩:=Eu i0 O;have⟨d,e,f⟩:=OS (Bi d j) (Bi e k) (Bi f l) O;have b:=j0;cases BQ i;exact Ro 3 (UW b CI BA ⟨_,z,_,_,_,z,AB.base d,AB.baseN (AB.wideN e),AB.base f,(No.of k j),(No.of l j),(No.of l k),k0⟩)
def Jx(n:Nat)(a0:List AX)(k0:Int->(List AX)->Option (List AX)):Nat->Int->(List AX)->Option (List AX)
 |0,_,_=>none
 |m+1,a,b=>cond (decide (a<(a0.length:Int))) ((AE a0 a).bind fun c=>(VH n c).bind fun d=>(AE b a).bind fun e=>Jx n a0 k0 m (wrap .i64 (a+1)) ((b.set (a).toNat d))) (k0 a b)
def Zj(n:Nat)(a0:List AX):Option (List AX):=(MY ((a0.length:Int)) 112).bind fun b=>Jx n a0 (fun c a=>some a) n 0 (List.replicate b ((AX.mk ByteArray.empty 0 (([]:List BD)) (([]:List Ah)) (([]:List Int)) 0 0)))
theorem zS{m o:List AX}{p:Value}(hF:Zj n m=some o)(hH:H<=w.heap.size)(q:AR C_Cell w H m p):
 Calls prog 61 [p].toArray w (DA fun I r=>∃s,I=s∧AB C_Cell r w.heap.size (SX w.heap.size r.heap.size s) 131 o s∧AJ w r):=by
 have J:=AJ.refl w;unfold Zj at hF;refine AA func61 z ntmps61 (Rc 8 (Yl z (Bs z Rv (q.oj J)) ?_));have⟨K,L,hF⟩:=AH hF;refine Ef z (CW (c:=C_Cell) (z:=(AX.mk ByteArray.empty 0 (([]:List BD)) (([]:List Ah)) (([]:List Int)) 0 0)) z EA iS z z z L z z (fun _=>Oo (AD.nil _ _ _) (AD.nil _ _ _) (AD.nil _ _ _))) ?_;rintro t M ⟨C,u,g0,h0,D,v⟩;have i0:=D.size;have v:=AB.toN v u;have h:=BT u;clear u;refine Ro 10 (WC.loopD (fun g i wl=>∃(c:Int) (d:List AX),Kn 23 [(0,p),(3,t),(4,.i c)] i∧AJ w wl∧M.heap.size<=wl.heap.size∧AB C_Cell wl (C) (SX (C) wl.heap.size t) 131 d t∧Jx n m (fun c d=>(some d)) g c d=some o) n ?_ ?_)
 ·intro i hK;exact⟨0,(List.replicate K ((AX.mk ByteArray.empty 0 (([]:List BD)) (([]:List Ah)) (([]:List Int)) 0 0))),hK.sub z,D,nr,(AB.wideN v),hF⟩
 ·rintro g i j0 ⟨c,d,hK,j,k0,k,hF⟩;refine By hK ?_;rcases g with _|g;exact Bx hF;rw [Jx.eq_2]at hF;refine Rc 5 (Yl z (Bs z Rv (q.oj j)) (Ro 3 (Wc z hF ?_ ?_)))
  ·intro hF;refine Rc 9 (Ix hF (q.oj j) Rv PJ ?_);rintro l l0 hF _ ⟨m0,n0,o0,rfl,p0,N,O⟩;obtain⟨P,Q,R,rfl,S,T,U⟩:=BV N;refine Yl z (CJ (us:=[.string l.Name,.i l.Kind,P,Q,R,.i l.Leak,.i l.Energy]) z ZM O PJ) ?_;refine Cg hF sW (fun _ a=>(zG a (by omega) S T U:)) ?_;rintro e hF _ V ⟨W,X,Y,rfl,x,y,A,q0,r0,s0,E⟩;have⟨Z,t0⟩:=Et j E;have k:=k.extN E (by omega);have u0:=AB.blk x;have v0:=AB.blk y;have w0:=AB.blk A;have F:=AB.wideN (hi':=V.heap.size) k;refine Io hF F EA BA ?_;rintro x0 a0 hF _ ⟨y0,z0,rfl,B,G,b0⟩;have c0:=G;obtain⟨A0,B0,C0,rfl,D0,E0,F0⟩:=BV G;refine Ef z (Ag (c:=C_Cell) (us':=[.string e.Name,.i e.Kind,W,X,Y,.i e.Leak,.i e.Energy]) (y':=e) 0 _ z z z F B a0 z BA (AC z (AC z (AC x.one (AC (AD.one (AB.slN y nr nr)) (AC A.one (AC z (AC z Aw))))))) c0 b0 z z (Oo ((AB.slf x nr nr).mono (fun f a=>⟨by have:=a.1;omega,by have:=a.2;omega,fun b=>by have:=h f b;have:=a.1;have:=a.2;omega⟩) (fun _ _=>z)) ((AB.slN y nr nr).mono (fun f a=>⟨by have:=a.1;omega,by have:=a.2;omega,fun b=>by have:=h f b;have:=a.1;have:=a.2;omega⟩) (fun _ _=>z)) ((AB.slf A nr nr).mono (fun f a=>⟨by have:=a.1;omega,by have:=a.2;omega,fun b=>by have:=h f b;have:=a.1;have:=a.2;omega⟩) (fun _ _=>z))) (fun f a b=>a.2.2 (b▸B))) ?_;rintro _ G0 ⟨d0,e0⟩;have⟨f0,H0⟩:=Eu Z d0 (by have:=h _ B;omega);refine Ro 9 ?_;intro i hK;exact⟨g,nr,(wrap .i64 (c+1)),((d.set (c).toNat e)),hK.sub z,f0,(by omega),(AB.wideN e0),hF⟩
  ·intro hF;cases BQ hF;exact Rc 12 (Ne z z ⟨_,z,_,z,AB.baseN (AB.wideN k),j⟩)
def Xe(n:Nat)(a0:Ab):Option Ab:=(Zj n a0.Cells).bind fun a=>some ((Ab.mk a))
theorem AbL{g h:Ab}{i:Value}(hF:Xe n g=some h)(hH:H<=w.heap.size)(s:AR C_Cell w H g.Cells i):
 Calls prog 29 [.agg #[i]].toArray w (DA fun t e=>∃f,t= .agg #[f]∧AB C_Cell e w.heap.size (SX w.heap.size e.heap.size f) 131 h.Cells f∧AJ w e):=by
 unfold Xe at hF;refine AA func29 z ntmps29 (Rc 2 (Ef z (AF z z) ?_));rintro _ D ⟨E,rfl,F,G,j,c⟩;have I:=j.size;refine Ef z (AY z eW) ?_;rintro _ J ⟨K,rfl,L,M,k,a⟩;have⟨u,N⟩:=Et j k;have c:=c.ext k;refine Ro 4 (Ef z (AY z eW) ?_);rintro _ O ⟨P,rfl,Q,R,l,d⟩;have⟨m,S⟩:=Et u l;have⟨c,a⟩:=CB c a l;refine Ro 4 (Fl Tt fJ c ?_);refine Cg hF qD (fun _ v=>(zS v (by omega) (s.oj m):)) ?_;rintro T hF U V ⟨_,rfl,b,o⟩;have⟨x,W⟩:=Et m o;have⟨a,d⟩:=CB a d o;have p:=AB.blk b;refine Yl z (BF z CH) (Ef z (BR z z z d qA (AD.cells (AB.slN b nr nr)) (AD.one (AB.slN b nr nr)) z) ?_);rintro _ X ⟨q,y⟩;have⟨A,Y⟩:=Eu x q;have⟨a,b⟩:=Ky a (Bi b p) q;have d:=y;refine Ro 4 (Yl z (CC z Ir d Gh) (Ef z (Cu z a Gh (AC (AD.one (AB.slN b nr nr)) Aw) z) ?_));rintro _ Z ⟨r,B⟩;have⟨C,a0⟩:=Eu A r;have b:=dC (Bi b p) r;have a:=B;cases BQ hF;exact Ro 3 (UW a Ir Gh ⟨_,z,_,z,AB.baseN (AB.wideN b),C⟩)
def US(n:Nat)(a0:AO):Option AO:=(Uh n a0.Nets).bind fun a=>some ((AO.mk a0.Name a0.Cell a))
theorem xS{e f:AO}{g:Value}(hF:US n e=some f)(hH:H<=w.heap.size)(u:AR (AL .i64) w H e.Nets g):
 Calls prog 99 [.agg #[.string e.Name,.i e.Cell,g]].toArray w (DA fun v h=>∃i,v= .agg #[.string f.Name,.i f.Cell,i]∧AB (AL .i64) h w.heap.size (Iv 0 0) 2 f.Nets i∧AJ w h):=by
 unfold US at hF;refine AA func99 z ntmps99 (Rc 2 (Ef z (AF z z) ?_));rintro _ K ⟨L,rfl,M,N,j,b⟩;have O:=j.size;refine Ef z (AY z JM) ?_;rintro _ P ⟨Q,rfl,R,S,k,a⟩;have⟨x,T⟩:=Et j k;have b:=b.ext k;refine Ro 4 (Ef z (AY z JM) ?_);rintro _ U ⟨V,rfl,W,X,l,c⟩;have⟨y,Y⟩:=Et x l;have⟨b,a⟩:=CB b a l;refine Ro 4 (Fl Qp Dl b (Yl z (BF z HS) (Ef z (Cu z c GW z z) ?_)));rintro _ Z ⟨m,A⟩;have⟨B,a0⟩:=Eu y m;have⟨b,a⟩:=Ky b a m;have c:=A;refine Ro 4 (Fl Zf AI b (Yl z (BF z CY) (Ef z (Cu z c Ap z z) ?_)));rintro _ b0 ⟨o,C⟩;have⟨p,c0⟩:=Eu B o;have⟨b,a⟩:=Ky b a o;have c:=C;refine Ro 4 (Fl Pq Ad b ?_);refine Cg hF ID (fun _ D=>(cA D (by omega) (u.oj p):)) ?_;rintro d0 hF e0 f0 ⟨_,rfl,d,q⟩;have⟨E,g0⟩:=Et p q;have⟨a,c⟩:=CB a c q;have r:=AB.blk d;refine Yl z (BF z Cf) (Ef z (BR z z z c GQ d.cells d.one z) ?_);rintro _ h0 ⟨s,F⟩;have⟨G,i0⟩:=Eu E s;have⟨a,d⟩:=Ky a (Bi d r) s;have c:=F;refine Ro 4 (Yl z (CC z Fs c Ba) (Ef z (Cu z a Ba (AC z (AC z (AC d.one Aw))) z) ?_));rintro _ j0 ⟨t,I⟩;have⟨J,k0⟩:=Eu G t;have d:=dC (Bi d r) t;have a:=I;cases BQ hF;exact Ro 3 (UW a Fs Ba ⟨_,z,_,z,AB.base d,J⟩)
def KC(n:Nat)(a0:List AO)(k0:Int->(List AO)->Option (List AO)):Nat->Int->(List AO)->Option (List AO)
 |0,_,_=>none
 |m+1,a,b=>cond (decide (a<(a0.length:Int))) ((AE a0 a).bind fun c=>(US n c).bind fun d=>(AE b a).bind fun e=>KC n a0 k0 m (wrap .i64 (a+1)) ((b.set (a).toNat d))) (k0 a b)
def Vt(n:Nat)(a0:List AO):Option (List AO):=(MY ((a0.length:Int)) 48).bind fun b=>KC n a0 (fun c a=>some a) n 0 (List.replicate b ((AO.mk ByteArray.empty 0 (([]:List Int)))))
theorem AaV{i j:List AO}{k:Value}(hF:Vt n i=some j)(hH:H<=w.heap.size)(l:AR C_Instance w H i k):
 Calls prog 62 [k].toArray w (DA fun F m=>∃o,F=o∧AB C_Instance m w.heap.size (SX w.heap.size m.heap.size o) 133 j o∧AJ w m):=by
 have G:=AJ.refl w;unfold Vt at hF;refine AA func62 z ntmps62 (Rc 8 (Yl z (Bs z St (l.oj G)) ?_));have⟨I,J,hF⟩:=AH hF;refine Ef z (CW (c:=C_Instance) (z:=(AO.mk ByteArray.empty 0 (([]:List Int)))) z DV lH z z z J z z (fun _=>Kg (AD.nil _ _ _))) ?_;rintro p K ⟨v,q,Y,Z,x,r⟩;have a0:=x.size;have r:=AB.toN r q;have y:=BT q;clear q;refine Ro 10 (WC.loopD (fun d e wl=>∃(b:Int) (c:List AO),Kn 23 [(0,k),(3,p),(4,.i b)] e∧AJ w wl∧K.heap.size<=wl.heap.size∧AB C_Instance wl (v) (SX (v) wl.heap.size p) 133 c p∧KC n i (fun b c=>(some c)) d b c=some j) n ?_ ?_)
 ·intro e hK;exact⟨0,(List.replicate I ((AO.mk ByteArray.empty 0 (([]:List Int))))),hK.sub z,x,nr,(AB.wideN r),hF⟩
 ·rintro d e b0 ⟨b,c,hK,f,c0,g,hF⟩;refine By hK ?_;rcases d with _|d;exact Bx hF;rw [KC.eq_2]at hF;refine Rc 5 (Yl z (Bs z St (l.oj f)) (Ro 3 (Wc z hF ?_ ?_)))
  ·intro hF;refine Rc 9 (Ix hF (l.oj f) St PQ ?_);rintro A d0 hF _ ⟨e0,f0,g0,rfl,h0,L,M⟩;obtain⟨N,rfl,O⟩:=As L;refine Yl z (CJ (us:=[.string A.Name,.i A.Cell,N]) z WA M PQ) ?_;refine Cg hF tW (fun _ a=>(xS a (by omega) O:)) ?_;rintro h hF _ P ⟨Q,rfl,s,B⟩;have⟨R,i0⟩:=Et f B;have g:=g.extN B (by omega);have j0:=AB.blk s;have C:=AB.wideN (hi':=P.heap.size) g;refine Io hF C DV Ba ?_;rintro k0 S hF _ ⟨l0,m0,rfl,t,D,T⟩;have U:=D;obtain⟨n0,rfl,o0⟩:=As D;refine Ef z (Ag (c:=C_Instance) (us':=[.string h.Name,.i h.Cell,Q]) (y':=h) 0 _ z z z C t S z Ba (AC z (AC z (AC s.one Aw))) U T z z (Kg ((AB.slf s nr nr).mono (fun E a=>⟨by have:=a.1;omega,by have:=a.2;omega,fun u=>by have:=y E u;have:=a.1;have:=a.2;omega⟩) (fun _ _=>z))) (fun E a u=>a.2.2 (u▸t))) ?_;rintro _ p0 ⟨V,W⟩;have⟨X,q0⟩:=Eu R V (by have:=y _ t;omega);refine Ro 9 ?_;intro e hK;exact⟨d,nr,(wrap .i64 (b+1)),((c.set (b).toNat h)),hK.sub z,X,(by omega),(AB.wideN W),hF⟩
  ·intro hF;cases BQ hF;exact Rc 12 (Ne z z ⟨_,z,_,z,AB.baseN (AB.wideN g),f⟩)
def KK(a0:List ByteArray)(k0:Int->(List ByteArray)->Option (List ByteArray)):Nat->Int->(List ByteArray)->Option (List ByteArray)
 |0,_,_=>none
 |m+1,a,b=>cond (decide (a<(a0.length:Int))) ((AE a0 a).bind fun c=>(AE b a).bind fun d=>KK a0 k0 m (wrap .i64 (a+1)) ((b.set (a).toNat c))) (k0 a b)
def Xv(n:Nat)(a0:List ByteArray):Option (List ByteArray):=(MY ((a0.length:Int)) 16).bind fun b=>KK a0 (fun c a=>some a) n 0 (List.replicate b ByteArray.empty)
theorem xA{h i:List ByteArray}{j:Value}(a:Xv n h=some i)(O:H<=w.heap.size)(k:AR At w H h j):
 Calls prog 63 [j].toArray w (DA fun v o=>∃p,v=p∧AB At o w.heap.size (Iv 0 0) 9 i p∧AJ w o):=by
 have x:=AJ.refl w;unfold Xv at a;refine AA func63 z ntmps63 (Rc 8 (Yl z (Bs z Cj (k.oj x)) ?_));have⟨y,A,a⟩:=AH a;refine Ef z (CW (c:=At) (z:=ByteArray.empty) z Cj Ko z z z A z z (fun _=>z)) ?_;rintro q B ⟨C,r,P,Q,s,D⟩;have R:=s.size;have E:=BT r;clear r;refine Ro 10 (WC.loopD (fun d f wl=>∃(b:Int) (c:List ByteArray),Kn 22 [(0,j),(3,q),(4,.i b)] f∧AJ w wl∧B.heap.size<=wl.heap.size∧AB At wl (C) (Iv 0 0) 9 c q∧KK h (fun b c=>(some c)) d b c=some i) n ?_ ?_)
 ·intro f e;exact⟨0,(List.replicate y ByteArray.empty),e.sub z,s,nr,D,a⟩
 ·rintro d f S ⟨b,c,e,g,T,l,a⟩;refine By e ?_;rcases d with _|d;exact Bx a;rw [KK.eq_2]at a;refine Rc 5 (Yl z (Bs z Cj (k.oj g)) (Ro 3 (Wc z a ?_ ?_)))
  ·intro a;refine Rc 9 (Il a (k.oj g) Cj GW Dl ?_);rintro m a _;refine Io a l Cj GW ?_;rintro U F a _ ⟨V,W,rfl,t,u,G⟩;have I:=u;obtain rfl:=u;refine Ef z (Ag (c:=At) (us':=[.string m]) (y':=m) 0 _ z z z l t F z GW z I G z z z (fun J K=>absurd K.2 (Nat.not_lt_zero J))) ?_;rintro _ X ⟨L,M⟩;have⟨N,Y⟩:=Eu g L (by have:=E _ t;omega);refine Ro 9 ?_;intro f e;exact⟨d,nr,(wrap .i64 (b+1)),((c.set (b).toNat m)),e.sub z,N,(by omega),M,a⟩
  ·intro a;cases BQ a;exact Rc 12 (Ne z z ⟨_,z,_,z,AB.base l,g⟩)
def Xb(n:Nat)(a0:BG):Option BG:=some a0
theorem xC{d e:BG}(f:Xb n d=some e):
 Calls prog 100 [.agg #[.string d.Name,.i d.Dir,.i d.Net]].toArray w (DA fun m g=>m= .agg #[.string e.Name,.i e.Dir,.i e.Net]∧AJ w g):=by
 unfold Xb at f;refine AA func100 z ntmps100 (Rc 2 (Ef z (AF z z) ?_));rintro _ g ⟨B,rfl,C,D,h,a⟩;have E:=h.size;refine Ef z (AY z Nu) ?_;rintro _ F ⟨G,rfl,I,J,i,b⟩;have⟨o,K⟩:=Et h i;have a:=a.ext i;refine Ro 4 (Ef z (AY z Nu) ?_);rintro _ L ⟨M,rfl,N,O,j,c⟩;have⟨p,P⟩:=Et o j;have⟨a,b⟩:=CB a b j;refine Ro 4 (Fl RP Dl a (Yl z (BF z HY) (Ef z (Cu z c GW z z) ?_)));rintro _ Q ⟨k,q⟩;have⟨r,R⟩:=Eu p k;have⟨a,b⟩:=Ky a b k;have c:=q;refine Ro 4 (Fl Ws AI a (Yl z (BF z EE) (Ef z (Cu z c Ap z z) ?_)));rintro _ S ⟨H,s⟩;have⟨t,T⟩:=Eu r H;have⟨a,b⟩:=Ky a b H;have c:=s;refine Ro 4 (Fl Yi AI a (Yl z (BF z ER) (Ef z (Cu z c Ap z z) ?_)));rintro _ U ⟨l,u⟩;have⟨v,V⟩:=Eu t l;have b:=b.upd l (by omega);have c:=u;refine Ro 4 (Yl z (CC z LG c CO) (Ef z (Cu z b CO z z) ?_));rintro _ W ⟨x,y⟩;have⟨A,X⟩:=Eu v x;have b:=y;obtain rfl:=(Sy f);exact Ro 3 (UW b LG CO ⟨_,z,z,A⟩)
def KP(n:Nat)(a0:List BG)(k0:Int->(List BG)->Option (List BG)):Nat->Int->(List BG)->Option (List BG)
 |0,_,_=>none
 |m+1,a,b=>cond (decide (a<(a0.length:Int))) ((AE a0 a).bind fun d=>(Xb n d).bind fun c=>(AE b a).bind fun e=>KP n a0 k0 m (wrap .i64 (a+1)) ((b.set (a).toNat c))) (k0 a b)
def Xu(n:Nat)(a0:List BG):Option (List BG):=(MY ((a0.length:Int)) 32).bind fun b=>KP n a0 (fun c a=>some a) n 0 (List.replicate b ((BG.mk ByteArray.empty 0 0)))
theorem AcO{h i:List BG}{j:Value}(hF:Xu n h=some i)(hH:H<=w.heap.size)(k:AR C_Port w H h j):
 Calls prog 64 [j].toArray w (DA fun x o=>∃p,x=p∧AB C_Port o w.heap.size (Iv 0 0) 188 i p∧AJ w o):=by
 have y:=AJ.refl w;unfold Xu at hF;refine AA func64 z ntmps64 (Rc 8 (Yl z (Bs z TC (k.oj y)) ?_));have⟨A,B,hF⟩:=AH hF;refine Ef z (CW (c:=C_Port) (z:=(BG.mk ByteArray.empty 0 0)) z Ex mQ z z z B z z (fun _=>Of)) ?_;rintro q C ⟨D,r,R,S,s,E⟩;have T:=s.size;have F:=BT r;clear r;refine Ro 10 (WC.loopD (fun c f wl=>∃(a:Int) (b:List BG),Kn 23 [(0,j),(3,q),(4,.i a)] f∧AJ w wl∧C.heap.size<=wl.heap.size∧AB C_Port wl (D) (Iv 0 0) 188 b q∧KP n h (fun a b=>(some b)) c a b=some i) n ?_ ?_)
 ·intro f hK;exact⟨0,(List.replicate A ((BG.mk ByteArray.empty 0 0))),hK.sub z,s,nr,E,hF⟩
 ·rintro c f U ⟨a,b,hK,g,V,d,hF⟩;refine By hK ?_;rcases c with _|c;exact Bx hF;rw [KP.eq_2]at hF;refine Rc 5 (Yl z (Bs z TC (k.oj g)) (Ro 3 (Wc z hF ?_ ?_)))
  ·intro hF;refine Rc 9 (Ix hF (k.oj g) TC PL ?_);rintro l W hF _ ⟨X,Y,Z,rfl,a0,G,I⟩;obtain rfl:=Br G;refine Yl z (CJ (us:=[.string l.Name,.i l.Dir,.i l.Net]) z ZV I PL) ?_;refine Cg hF nM (fun _ m=>(xC m:)) ?_;rintro e hF _ b0 ⟨rfl,t⟩;have⟨J,c0⟩:=Et g t;have d:=d.ext t;refine Io hF d Ex CO ?_;rintro d0 K hF _ ⟨e0,f0,rfl,u,v,L⟩;have M:=v;obtain rfl:=Br v;refine Ef z (Ag (c:=C_Port) (us':=[.string e.Name,.i e.Dir,.i e.Net]) (y':=e) 0 _ z z z d u K z CO z M L z z Of (fun N m=>absurd m.2 (Nat.not_lt_zero N))) ?_;rintro _ g0 ⟨O,P⟩;have⟨Q,h0⟩:=Eu J O (by have:=F _ u;omega);refine Ro 9 ?_;intro f hK;exact⟨c,nr,(wrap .i64 (a+1)),((b.set (a).toNat e)),hK.sub z,Q,(by omega),P,hF⟩
  ·intro hF;cases BQ hF;exact Rc 12 (Ne z z ⟨_,z,_,z,AB.base d,g⟩)
def WG(n:Nat)(a0:AP):Option AP:=(Vt n a0.Instances).bind fun b=>(Xv n a0.Nets).bind fun a=>(Xu n a0.Ports).bind fun c=>some ((AP.mk b a c))
theorem yS{m o:AP}{s t u:Value}(g:WG n m=some o)(Z:H<=w.heap.size)(L:AR C_Instance w H m.Instances s)(M:AR At w H m.Nets t)(N:AR C_Port w H m.Ports u):
 Calls prog 30 [.agg #[s,t,u]].toArray w (DA fun O i=>∃j p q,O= .agg #[j,p,q]∧AB C_Instance i w.heap.size (SX w.heap.size i.heap.size j) 133 o.Instances j∧AB At i w.heap.size (Iv 0 0) 9 o.Nets p∧AB C_Port i w.heap.size (Iv 0 0) 188 o.Ports q∧No p j∧No q j∧No q p∧AJ w i):=by
 unfold WG at g;refine AA func30 z ntmps30 (Rc 2 (Ef z (AF z z) ?_));rintro _ a0 ⟨b0,rfl,c0,d0,v,c⟩;have e0:=v.size;refine Ef z (AY z fP) ?_;rintro _ f0 ⟨g0,rfl,h0,i0,x,a⟩;have⟨P,j0⟩:=Et v x;have c:=c.ext x;refine Ro 4 (Ef z (AY z fP) ?_);rintro _ k0 ⟨l0,rfl,m0,n0,y,d⟩;have⟨A,o0⟩:=Et P y;have⟨c,a⟩:=CB c a y;refine Ro 4 (Fl Th eZ c ?_);refine Cg g uA (fun _ k=>(AaV k (by omega) (L.oj A):)) ?_;rintro p0 g q0 r0 ⟨_,rfl,b,B⟩;have⟨Q,s0⟩:=Et A B;have⟨c,a,d⟩:=FS c a d B;have h:=AB.blk b;refine Yl z (BF z Bq) (Ef z (BR z z z d rK (AD.cells (AB.slN b nr nr)) (AD.one (AB.slN b nr nr)) z) ?_);rintro _ t0 ⟨C,R⟩;have⟨D,u0⟩:=Eu Q C;have⟨c,a,b⟩:=OS c a (Bi b h) C;have d:=R;refine Ro 4 (Fl Tg GE c ?_);refine Cg g uF (fun _ k=>(xA k (by omega) (M.oj D):)) ?_;rintro v0 g w0 x0 ⟨_,rfl,e,E⟩;have⟨S,y0⟩:=Et D E;have⟨c,a,d,b⟩:=JX c a d b E;have l:=AB.blk e;refine Yl z (BF z Dx) (Ef z (BR z z z d uJ e.cells e.one z) ?_);rintro _ z0 ⟨F,T⟩;have⟨G,A0⟩:=Eu S F;have⟨c,a,b,e⟩:=OK c a (Bi b h) (Bi e l) F;have d:=T;refine Ro 4 (Fl Tp gH c ?_);refine Cg g pC (fun _ k=>(AcO k (by omega) (N.oj G):)) ?_;rintro B0 g C0 D0 ⟨_,rfl,f,I⟩;have⟨U,E0⟩:=Et G I;have⟨a,d,b,e⟩:=JX a d b e I;have r:=AB.blk f;refine Yl z (BF z Cm) (Ef z (BR z z z d tS f.cells f.one z) ?_);rintro _ F0 ⟨J,V⟩;have⟨W,G0⟩:=Eu U J;have⟨a,b,e,f⟩:=OK a (Bi b h) (Bi e l) (Bi f r) J;have d:=V;refine Ro 4 (Yl z (CC z DZ d DL) (Ef z (Cu z a DL (AC (AD.one (AB.slN b nr nr)) (AC e.one (AC f.one Aw))) z) ?_));rintro _ H0 ⟨K,X⟩;have⟨Y,I0⟩:=Eu W K;have⟨b,e,f⟩:=OS (Bi b h) (Bi e l) (Bi f r) K;have a:=X;cases BQ g;exact Ro 3 (UW a DZ DL ⟨_,z,_,_,_,z,AB.baseN (AB.wideN b),AB.base e,AB.base f,(No.of l h),(No.of r h),(No.of r l),Y⟩)
def UY(n:Nat)(a0:Ar):Option Ar:=(Uh n a0.Parent).bind fun a=>(Uh n a0.Res).bind fun b=>(Uh n a0.Cap).bind fun c=>(Uh n a0.Sink).bind fun d=>some ((Ar.mk a b c d))
theorem xL{m o:Ar}{v x y A:Value}(g:UY n m=some o)(j0:H<=w.heap.size)(S:AR (AL .i64) w H m.Parent v)(T:AR (AL .i64) w H m.Res x)(U:AR (AL .i64) w H m.Cap y)(V:AR (AL .i64) w H m.Sink A):
 Calls prog 65 [.agg #[v,x,y,A]].toArray w (DA fun W p=>∃q r s t,W= .agg #[q,r,s,t]∧AB (AL .i64) p w.heap.size (Iv 0 0) 2 o.Parent q∧AB (AL .i64) p w.heap.size (Iv 0 0) 2 o.Res r∧AB (AL .i64) p w.heap.size (Iv 0 0) 2 o.Cap s∧AB (AL .i64) p w.heap.size (Iv 0 0) 2 o.Sink t∧No r q∧No s q∧No s r∧No t q∧No t r∧No t s∧AJ w p):=by
 unfold UY at g;refine AA func65 z ntmps65 (Rc 2 (Ef z (AF z z) ?_));rintro _ k0 ⟨l0,rfl,m0,n0,B,c⟩;have o0:=B.size;refine Ef z (AY z NW) ?_;rintro _ p0 ⟨q0,rfl,r0,s0,C,a⟩;have⟨X,t0⟩:=Et B C;have c:=c.ext C;refine Ro 4 (Ef z (AY z NW) ?_);rintro _ u0 ⟨v0,rfl,w0,x0,D,d⟩;have⟨E,y0⟩:=Et X D;have⟨c,a⟩:=CB c a D;refine Ro 4 (Fl Qh Ad c ?_);refine Cg g ID (fun _ j=>(cA j (by omega) (S.oj E):)) ?_;rintro z0 g A0 B0 ⟨_,rfl,b,F⟩;have⟨Y,C0⟩:=Et E F;have⟨c,a,d⟩:=FS c a d F;have i:=AB.blk b;refine Yl z (BF z EB) (Ef z (BR z z z d GQ b.cells b.one z) ?_);rintro _ D0 ⟨G,Z⟩;have⟨I,E0⟩:=Eu Y G;have⟨c,a,b⟩:=OS c a (Bi b i) G;have d:=Z;refine Ro 4 (Fl Qt Ad c ?_);refine Cg g ID (fun _ j=>(cA j (by omega) (T.oj I):)) ?_;rintro F0 g G0 H0 ⟨_,rfl,e,J⟩;have⟨a0,I0⟩:=Et I J;have⟨c,a,d,b⟩:=JX c a d b J;have k:=AB.blk e;refine Yl z (BF z EG) (Ef z (BR z z z d GQ e.cells e.one z) ?_);rintro _ J0 ⟨K,b0⟩;have⟨L,K0⟩:=Eu a0 K;have⟨c,a,b,e⟩:=OK c a (Bi b i) (Bi e k) K;have d:=b0;refine Ro 4 (Fl Qj Ad c ?_);refine Cg g ID (fun _ j=>(cA j (by omega) (U.oj L):)) ?_;rintro L0 g M0 N0 ⟨_,rfl,f,M⟩;have⟨c0,O0⟩:=Et L M;have⟨c,a,d,b,e⟩:=Ee c a d b e M;have l:=AB.blk f;refine Yl z (BF z FA) (Ef z (BR z z z d GQ f.cells f.one z) ?_);rintro _ P0 ⟨N,d0⟩;have⟨O,Q0⟩:=Eu c0 N;have⟨c,a,b,e,f⟩:=Ou c a (Bi b i) (Bi e k) (Bi f l) N;have d:=d0;refine Ro 4 (Fl Pp Ad c ?_);refine Cg g ID (fun _ j=>(cA j (by omega) (V.oj O):)) ?_;rintro R0 g S0 T0 ⟨_,rfl,h,P⟩;have⟨e0,U0⟩:=Et O P;have⟨a,d,b,e,f⟩:=Ee a d b e f P;have u:=AB.blk h;refine Yl z (BF z EC) (Ef z (BR z z z d GQ h.cells h.one z) ?_);rintro _ V0 ⟨Q,f0⟩;have⟨g0,W0⟩:=Eu e0 Q;have⟨a,b,e,f,h⟩:=Ou a (Bi b i) (Bi e k) (Bi f l) (Bi h u) Q;have d:=f0;refine Ro 4 (Yl z (CC z HE d CT) (Ef z (Cu z a CT (AC b.one (AC e.one (AC f.one (AC h.one Aw)))) z) ?_));rintro _ X0 ⟨R,h0⟩;have⟨i0,Y0⟩:=Eu g0 R;have⟨b,e,f,h⟩:=OK (Bi b i) (Bi e k) (Bi f l) (Bi h u) R;have a:=h0;cases BQ g;exact Ro 3 (UW a HE CT ⟨_,z,_,_,_,_,z,AB.base b,AB.base e,AB.base f,AB.base h,(No.of k i),(No.of l i),(No.of l k),(No.of u i),(No.of u k),(No.of u l),i0⟩)
def Ju(n:Nat)(a0:List Ar)(k0:Int->(List Ar)->Option (List Ar)):Nat->Int->(List Ar)->Option (List Ar)
 |0,_,_=>none
 |m+1,a,b=>cond (decide (a<(a0.length:Int))) ((AE a0 a).bind fun d=>(UY n d).bind fun c=>(AE b a).bind fun e=>Ju n a0 k0 m (wrap .i64 (a+1)) ((b.set (a).toNat c))) (k0 a b)
def Xp(n:Nat)(a0:List Ar):Option (List Ar):=(MY ((a0.length:Int)) 96).bind fun b=>Ju n a0 (fun c a=>some a) n 0 (List.replicate b ((Ar.mk (([]:List Int)) (([]:List Int)) (([]:List Int)) (([]:List Int)))))
theorem wB{k l:List Ar}{m:Value}(hF:Xp n k=some l)(hH:H<=w.heap.size)(o:AR C_Wire w H k m):
 Calls prog 31 [m].toArray w (DA fun I p=>∃q,I=q∧AB C_Wire p w.heap.size (SX w.heap.size p.heap.size q) 140 l q∧AJ w p):=by
 have J:=AJ.refl w;unfold Xp at hF;refine AA func31 z ntmps31 (Rc 8 (Yl z (Bs z SZ (o.oj J)) ?_));have⟨K,L,hF⟩:=AH hF;refine Ef z (CW (c:=C_Wire) (z:=(Ar.mk (([]:List Int)) (([]:List Int)) (([]:List Int)) (([]:List Int)))) z Fp kK z z z L z z (fun _=>Oe (AD.nil _ _ _) (AD.nil _ _ _) (AD.nil _ _ _) (AD.nil _ _ _))) ?_;rintro r M ⟨B,s,j0,k0,C,t⟩;have l0:=C.size;have t:=AB.toN t s;have f:=BT s;clear s;refine Ro 10 (WC.loopD (fun g h wl=>∃(d:Int) (e:List Ar),Kn 23 [(0,m),(3,r),(4,.i d)] h∧AJ w wl∧M.heap.size<=wl.heap.size∧AB C_Wire wl (B) (SX (B) wl.heap.size r) 140 e r∧Ju n k (fun d e=>(some e)) g d e=some l) n ?_ ?_)
 ·intro h hK;exact⟨0,(List.replicate K ((Ar.mk (([]:List Int)) (([]:List Int)) (([]:List Int)) (([]:List Int))))),hK.sub z,C,nr,(AB.wideN t),hF⟩
 ·rintro g h m0 ⟨d,e,hK,i,n0,j,hF⟩;refine By hK ?_;rcases g with _|g;exact Bx hF;rw [Ju.eq_2]at hF;refine Rc 5 (Yl z (Bs z SZ (o.oj i)) (Ro 3 (Wc z hF ?_ ?_)))
  ·intro hF;refine Rc 9 (Ix hF (o.oj i) SZ Pk ?_);rintro o0 p0 hF _ ⟨q0,r0,s0,rfl,t0,N,O⟩;obtain⟨P,Q,R,S,rfl,T,U,V,W⟩:=Cp N;refine Yl z (CJ (us:=[P,Q,R,S]) z XA O Pk) ?_;refine Cg hF sT (fun _ a=>(xL a (by omega) T U V W:)) ?_;rintro D hF _ X ⟨Y,Z,a0,b0,rfl,u,v,x,y,u0,v0,w0,x0,y0,z0,E⟩;have⟨c0,A0⟩:=Et i E;have j:=j.extN E (by omega);have B0:=AB.blk u;have C0:=AB.blk v;have D0:=AB.blk x;have E0:=AB.blk y;have F:=AB.wideN (hi':=X.heap.size) j;refine Io hF F Fp CT ?_;rintro F0 d0 hF _ ⟨G0,H0,rfl,A,G,e0⟩;have f0:=G;obtain⟨I0,J0,K0,L0,rfl,M0,N0,O0,P0⟩:=Cp G;refine Ef z (Ag (c:=C_Wire) (us':=[Y,Z,a0,b0]) (y':=D) 0 _ z z z F A d0 z CT (AC u.one (AC v.one (AC x.one (AC y.one Aw)))) f0 e0 z z (Oe ((AB.slf u nr nr).mono (fun c a=>⟨by have:=a.1;omega,by have:=a.2;omega,fun b=>by have:=f c b;have:=a.1;have:=a.2;omega⟩) (fun _ _=>z)) ((AB.slf v nr nr).mono (fun c a=>⟨by have:=a.1;omega,by have:=a.2;omega,fun b=>by have:=f c b;have:=a.1;have:=a.2;omega⟩) (fun _ _=>z)) ((AB.slf x nr nr).mono (fun c a=>⟨by have:=a.1;omega,by have:=a.2;omega,fun b=>by have:=f c b;have:=a.1;have:=a.2;omega⟩) (fun _ _=>z)) ((AB.slf y nr nr).mono (fun c a=>⟨by have:=a.1;omega,by have:=a.2;omega,fun b=>by have:=f c b;have:=a.1;have:=a.2;omega⟩) (fun _ _=>z))) (fun c a b=>a.2.2 (b▸A))) ?_;rintro _ Q0 ⟨g0,h0⟩;have⟨i0,R0⟩:=Eu c0 g0 (by have:=f _ A;omega);refine Ro 9 ?_;intro h hK;exact⟨g,nr,(wrap .i64 (d+1)),((e.set (d).toNat D)),hK.sub z,i0,(by omega),(AB.wideN h0),hF⟩
  ·intro hF;cases BQ hF;exact Rc 12 (Ne z z ⟨_,z,_,z,AB.baseN (AB.wideN j),i⟩)
def Pr(n:Nat)(a0:AQ):Option AQ:=(Xe n a0.Library).bind fun b=>(WG n a0.Design).bind fun a=>(Xp n a0.Wires).bind fun c=>some ((AQ.mk b a c))
theorem aY{p q:AQ}{A B C D F:Value}(j:Pr n p=some q)(m0:H<=w.heap.size)(T:AR C_Cell w H p.Library.Cells A)(U:AR C_Instance w H p.Design.Instances B)(V:AR At w H p.Design.Nets C)(W:AR C_Port w H p.Design.Ports D)(X:AR C_Wire w H p.Wires F):
 Calls prog 7 [.agg #[A,B,C,D,F]].toArray w (DA fun Y h=>∃l m r s o,Y= .agg #[l,m,r,s,o]∧AB C_Cell h w.heap.size (SX w.heap.size h.heap.size l) 131 q.Library.Cells l∧AB C_Instance h w.heap.size (SX w.heap.size h.heap.size m) 133 q.Design.Instances m∧AB At h w.heap.size (Iv 0 0) 9 q.Design.Nets r∧AB C_Port h w.heap.size (Iv 0 0) 188 q.Design.Ports s∧AB C_Wire h w.heap.size (SX w.heap.size h.heap.size o) 140 q.Wires o∧No m l∧No r l∧No r m∧No s l∧No s m∧No s r∧No o l∧No o m∧No o r∧No o s∧AJ w h):=by
 unfold Pr at j;refine AA func7 z ntmps7 (Rc 2 (Ef z (AF z z) ?_));rintro _ n0 ⟨o0,rfl,p0,q0,G,c⟩;have r0:=G.size;refine Ef z (AY z XE) ?_;rintro _ s0 ⟨t0,rfl,u0,v0,I,a⟩;have⟨Z,w0⟩:=Et G I;have c:=c.ext I;refine Ro 4 (Ef z (AY z XE) ?_);rintro _ x0 ⟨y0,rfl,z0,A0,J,d⟩;have⟨K,B0⟩:=Et Z J;have⟨c,a⟩:=CB c a J;refine Ro 4 (Yl z (BF z Te) (Yl z (CJ (us:=[A]) z fU (AM.sub (BK.cells c) 0 1:AM _ _ _ [A]) fA) ?_));refine Cg j rB (fun _ u=>(AbL u (by omega) (T.oj K):)) ?_;rintro C0 j _ D0 ⟨E0,rfl,b,L⟩;have⟨a0,F0⟩:=Et K L;have⟨c,a,d⟩:=FS c a d L;have k:=AB.blk b;refine Yl z (BF z De) (Ef z (Cu z d Gh (AC (AD.one (AB.slN b nr nr)) Aw) z) ?_);rintro _ G0 ⟨M,b0⟩;have⟨E,H0⟩:=Eu a0 M;have⟨c,a,b⟩:=OS c a (Bi b k) M;have d:=b0;refine Ro 4 (Yl z (BF z UB) (Yl z (CJ (us:=[B,C,D]) z fM (AM.sub (BK.cells c) 1 3:AM _ _ _ [B,C,D]) gF) ?_));refine Cg j pE (fun _ u=>(yS u (by omega) (U.oj E) (V.oj E) (W.oj E):)) ?_;rintro I0 j _ J0 ⟨K0,L0,M0,rfl,e,f,g,c0,d0,e0,N⟩;have⟨f0,N0⟩:=Et E N;have⟨c,a,d,b⟩:=JX c a d b N;have v:=AB.blk e;have x:=AB.blk f;have y:=AB.blk g;refine Yl z (BF z Bl) (Ef z (Cu z d DL (AC (AD.one (AB.slN e nr nr)) (AC f.one (AC g.one Aw))) z) ?_);rintro _ O0 ⟨O,g0⟩;have⟨P,P0⟩:=Eu f0 O;have⟨c,a,b,e,f,g⟩:=rO c a (Bi b k) (Bi e v) (Bi f x) (Bi g y) O;have d:=g0;refine Ro 4 (Fl TT gG c ?_);refine Cg j sK (fun _ u=>(wB u (by omega) (X.oj P):)) ?_;rintro Q0 j R0 S0 ⟨_,rfl,i,Q⟩;have⟨h0,T0⟩:=Et P Q;have⟨a,d,b,e,f,g⟩:=Lw a d b e f g Q;have t:=AB.blk i;refine Yl z (BF z DO) (Ef z (BR z z z d tE (AD.cells (AB.slN i nr nr)) (AD.one (AB.slN i nr nr)) z) ?_);rintro _ U0 ⟨R,i0⟩;have⟨j0,V0⟩:=Eu h0 R;have⟨a,b,e,f,g,i⟩:=rO a (Bi b k) (Bi e v) (Bi f x) (Bi g y) (Bi i t) R;have d:=i0;refine Ro 4 (Yl z (CC z Ct d Ch) (Ef z (Cu z a Ch (AC (AD.one (AB.slN b nr nr)) (AC (AD.one (AB.slN e nr nr)) (AC f.one (AC g.one (AC (AD.one (AB.slN i nr nr)) Aw))))) z) ?_));rintro _ W0 ⟨S,k0⟩;have⟨l0,X0⟩:=Eu j0 S;have⟨b,e,f,g,i⟩:=Ou (Bi b k) (Bi e v) (Bi f x) (Bi g y) (Bi i t) S;have a:=k0;cases BQ j;exact Ro 3 (UW a Ct Ch ⟨_,z,_,_,_,_,_,z,AB.baseN (AB.wideN b),AB.baseN (AB.wideN e),AB.base f,AB.base g,AB.baseN (AB.wideN i),(No.of v k),(No.of x k),c0,(No.of y k),d0,e0,(No.of t k),(No.of t v),(No.of t x),(No.of t y),l0⟩)
def KI(a0:List Bool)(k0:Int->(List Bool)->Option (List Bool)):Nat->Int->(List Bool)->Option (List Bool)
 |0,_,_=>none
 |m+1,a,b=>cond (decide (a<(a0.length:Int))) ((AE a0 a).bind fun c=>(AE b a).bind fun d=>KI a0 k0 m (wrap .i64 (a+1)) ((b.set (a).toNat c))) (k0 a b)
def Zq(n:Nat)(a0:List Bool):Option (List Bool):=(MY ((a0.length:Int)) 1).bind fun b=>KI a0 (fun c a=>some a) n 0 (List.replicate b false)
theorem AbK{h i:List Bool}{j:Value}(a:Zq n h=some i)(O:H<=w.heap.size)(k:AR BH w H h j):
 Calls prog 32 [j].toArray w (DA fun v o=>∃p,v=p∧AB BH o w.heap.size (Iv 0 0) 4 i p∧AJ w o):=by
 have x:=AJ.refl w;unfold Zq at a;refine AA func32 z ntmps32 (Rc 8 (Yl z (Bs z GA (k.oj x)) ?_));have⟨y,A,a⟩:=AH a;refine Ef z (CW (c:=BH) (z:=false) z GA AcA z z z A z z (fun _=>z)) ?_;rintro q B ⟨C,r,P,Q,s,D⟩;have R:=s.size;have E:=BT r;clear r;refine Ro 10 (WC.loopD (fun d f wl=>∃(b:Int) (c:List Bool),Kn 22 [(0,j),(3,q),(4,.i b)] f∧AJ w wl∧B.heap.size<=wl.heap.size∧AB BH wl (C) (Iv 0 0) 4 c q∧KI h (fun b c=>(some c)) d b c=some i) n ?_ ?_)
 ·intro f e;exact⟨0,(List.replicate y false),e.sub z,s,nr,D,a⟩
 ·rintro d f S ⟨b,c,e,g,T,l,a⟩;refine By e ?_;rcases d with _|d;exact Bx a;rw [KI.eq_2]at a;refine Rc 5 (Yl z (Bs z GA (k.oj g)) (Ro 3 (Wc z a ?_ ?_)))
  ·intro a;refine Rc 9 (Il a (k.oj g) GA Ku Ed ?_);rintro m a _;refine Io a l GA Ku ?_;rintro U F a _ ⟨V,W,rfl,t,u,G⟩;have I:=u;obtain rfl:=u;refine Ef z (Ag (c:=BH) (us':=[.bool m]) (y':=m) 0 _ z z z l t F z Ku z I G z z z (fun J K=>absurd K.2 (Nat.not_lt_zero J))) ?_;rintro _ X ⟨L,M⟩;have⟨N,Y⟩:=Eu g L (by have:=E _ t;omega);refine Ro 9 ?_;intro f e;exact⟨d,nr,(wrap .i64 (b+1)),((c.set (b).toNat m)),e.sub z,N,(by omega),M,a⟩
  ·intro a;cases BQ a;exact Rc 12 (Ne z z ⟨_,z,_,z,AB.base l,g⟩)
def WB(n:Nat)(a0:AV):Option AV:=some a0
theorem AaS{d e:AV}(f:WB n d=some e):
 Calls prog 66 [.agg #[.i d.Early,.i d.Late]].toArray w (DA fun m g=>m= .agg #[.i e.Early,.i e.Late]∧AJ w g):=by
 unfold WB at f;refine AA func66 z ntmps66 (Rc 2 (Ef z (AF z z) ?_));rintro _ g ⟨y,rfl,A,B,h,b⟩;have C:=h.size;refine Ef z (AY z En) ?_;rintro _ D ⟨E,rfl,F,G,i,a⟩;have⟨o,I⟩:=Et h i;have b:=b.ext i;refine Ro 4 (Ef z (AY z En) ?_);rintro _ J ⟨H,rfl,K,L,j,c⟩;have⟨p,M⟩:=Et o j;have⟨b,a⟩:=CB b a j;refine Ro 4 (Fl XS AI b (Yl z (BF z Bb) (Ef z (Cu z c Ap z z) ?_)));rintro _ N ⟨k,q⟩;have⟨r,O⟩:=Eu p k;have⟨b,a⟩:=Ky b a k;have c:=q;refine Ro 4 (Fl WZ AI b (Yl z (BF z BW) (Ef z (Cu z c Ap z z) ?_)));rintro _ P ⟨l,s⟩;have⟨t,Q⟩:=Eu r l;have a:=a.upd l (by omega);have c:=s;refine Ro 4 (Yl z (CC z FF c BY) (Ef z (Cu z a BY z z) ?_));rintro _ R ⟨u,v⟩;have⟨x,S⟩:=Eu t u;have a:=v;obtain rfl:=(Sy f);exact Ro 3 (UW a FF BY ⟨_,z,z,x⟩)
def KO(n:Nat)(a0:List AV)(k0:Int->(List AV)->Option (List AV)):Nat->Int->(List AV)->Option (List AV)
 |0,_,_=>none
 |m+1,a,b=>cond (decide (a<(a0.length:Int))) ((AE a0 a).bind fun d=>(WB n d).bind fun c=>(AE b a).bind fun e=>KO n a0 k0 m (wrap .i64 (a+1)) ((b.set (a).toNat c))) (k0 a b)
def Uo(n:Nat)(a0:List AV):Option (List AV):=(MY ((a0.length:Int)) 16).bind fun b=>KO n a0 (fun c a=>some a) n 0 (List.replicate b ((AV.mk 0 0)))
theorem qS{h i:List AV}{j:Value}(hF:Uo n h=some i)(hH:H<=w.heap.size)(k:AR C_Span w H h j):
 Calls prog 33 [j].toArray w (DA fun x m=>∃o,x=o∧AB C_Span m w.heap.size (Iv 0 0) 78 i o∧AJ w m):=by
 have y:=AJ.refl w;unfold Uo at hF;refine AA func33 z ntmps33 (Rc 8 (Yl z (Bs z WK (k.oj y)) ?_));have⟨A,B,hF⟩:=AH hF;refine Ef z (CW (c:=C_Span) (z:=(AV.mk 0 0)) z Da tU z z z B z z (fun _=>KH)) ?_;rintro p C ⟨D,q,R,S,r,E⟩;have T:=r.size;have F:=BT q;clear q;refine Ro 10 (WC.loopD (fun c e wl=>∃(a:Int) (b:List AV),Kn 23 [(0,j),(3,p),(4,.i a)] e∧AJ w wl∧C.heap.size<=wl.heap.size∧AB C_Span wl (D) (Iv 0 0) 78 b p∧KO n h (fun a b=>(some b)) c a b=some i) n ?_ ?_)
 ·intro e hK;exact⟨0,(List.replicate A ((AV.mk 0 0))),hK.sub z,r,nr,E,hF⟩
 ·rintro c e U ⟨a,b,hK,f,V,d,hF⟩;refine By hK ?_;rcases c with _|c;exact Bx hF;rw [KO.eq_2]at hF;refine Rc 5 (Yl z (Bs z WK (k.oj f)) (Ro 3 (Wc z hF ?_ ?_)))
  ·intro hF;refine Rc 9 (Ix hF (k.oj f) WK ZB ?_);rintro s W hF _ ⟨X,Y,Z,rfl,a0,G,I⟩;obtain rfl:=Aq G;refine Yl z (CJ (us:=[.i s.Early,.i s.Late]) z nQ I ZB) ?_;refine Cg hF sF (fun _ l=>(AaS l:)) ?_;rintro g hF _ b0 ⟨rfl,t⟩;have⟨J,c0⟩:=Et f t;have d:=d.ext t;refine Io hF d Da BY ?_;rintro d0 K hF _ ⟨e0,f0,rfl,u,v,L⟩;have M:=v;obtain rfl:=Aq v;refine Ef z (Ag (c:=C_Span) (us':=[.i g.Early,.i g.Late]) (y':=g) 0 _ z z z d u K z BY z M L z z KH (fun N l=>absurd l.2 (Nat.not_lt_zero N))) ?_;rintro _ g0 ⟨O,P⟩;have⟨Q,h0⟩:=Eu J O (by have:=F _ u;omega);refine Ro 9 ?_;intro e hK;exact⟨c,nr,(wrap .i64 (a+1)),((b.set (a).toNat g)),hK.sub z,Q,(by omega),P,hF⟩
  ·intro hF;cases BQ hF;exact Rc 12 (Ne z z ⟨_,z,_,z,AB.base d,f⟩)
def Qu(n:Nat)(a0:Ac):Option Ac:=(Zq n a0.Reached).bind fun b=>(Uo n a0.Arrival).bind fun a=>(Uo n a0.Slew).bind fun c=>some ((Ac.mk b a c))
theorem cO{k l:Ac}{s t u:Value}(g:Qu n k=some l)(Z:H<=w.heap.size)(L:AR BH w H k.Reached s)(M:AR C_Span w H k.Arrival t)(N:AR C_Span w H k.Slew u):
 Calls prog 8 [.agg #[s,t,u]].toArray w (DA fun O m=>∃o p q,O= .agg #[o,p,q]∧AB BH m w.heap.size (Iv 0 0) 4 l.Reached o∧AB C_Span m w.heap.size (Iv 0 0) 78 l.Arrival p∧AB C_Span m w.heap.size (Iv 0 0) 78 l.Slew q∧No p o∧No q o∧No q p∧AJ w m):=by
 unfold Qu at g;refine AA func8 z ntmps8 (Rc 2 (Ef z (AF z z) ?_));rintro _ a0 ⟨b0,rfl,c0,d0,v,c⟩;have e0:=v.size;refine Ef z (AY z Xn) ?_;rintro _ f0 ⟨g0,rfl,h0,i0,x,a⟩;have⟨P,j0⟩:=Et v x;have c:=c.ext x;refine Ro 4 (Ef z (AY z Xn) ?_);rintro _ k0 ⟨l0,rfl,m0,n0,y,d⟩;have⟨A,o0⟩:=Et P y;have⟨c,a⟩:=CB c a y;refine Ro 4 (Fl TO Gy c ?_);refine Cg g pA (fun _ i=>(AbK i (by omega) (L.oj A):)) ?_;rintro p0 g q0 r0 ⟨_,rfl,b,B⟩;have⟨Q,s0⟩:=Et A B;have⟨c,a,d⟩:=FS c a d B;have h:=AB.blk b;refine Yl z (BF z EL) (Ef z (BR z z z d rN b.cells b.one z) ?_);rintro _ t0 ⟨C,R⟩;have⟨D,u0⟩:=Eu Q C;have⟨c,a,b⟩:=OS c a (Bi b h) C;have d:=R;refine Ro 4 (Fl Ty Tn c ?_);refine Cg g fS (fun _ i=>(qS i (by omega) (M.oj D):)) ?_;rintro v0 g w0 x0 ⟨_,rfl,e,E⟩;have⟨S,y0⟩:=Et D E;have⟨c,a,d,b⟩:=JX c a d b E;have j:=AB.blk e;refine Yl z (BF z CG) (Ef z (BR z z z d gO e.cells e.one z) ?_);rintro _ z0 ⟨F,T⟩;have⟨G,A0⟩:=Eu S F;have⟨c,a,b,e⟩:=OK c a (Bi b h) (Bi e j) F;have d:=T;refine Ro 4 (Fl Ta Tn c ?_);refine Cg g fS (fun _ i=>(qS i (by omega) (N.oj G):)) ?_;rintro B0 g C0 D0 ⟨_,rfl,f,I⟩;have⟨U,E0⟩:=Et G I;have⟨a,d,b,e⟩:=JX a d b e I;have r:=AB.blk f;refine Yl z (BF z Du) (Ef z (BR z z z d gO f.cells f.one z) ?_);rintro _ F0 ⟨J,V⟩;have⟨W,G0⟩:=Eu U J;have⟨a,b,e,f⟩:=OK a (Bi b h) (Bi e j) (Bi f r) J;have d:=V;refine Ro 4 (Yl z (CC z Fk d Ez) (Ef z (Cu z a Ez (AC b.one (AC e.one (AC f.one Aw))) z) ?_));rintro _ H0 ⟨K,X⟩;have⟨Y,I0⟩:=Eu W K;have⟨b,e,f⟩:=OS (Bi b h) (Bi e j) (Bi f r) K;have a:=X;cases BQ g;exact Ro 3 (UW a Fk Ez ⟨_,z,_,_,_,z,AB.base b,AB.base e,AB.base f,(No.of j h),(No.of r h),(No.of r j),Y⟩)
def VS(n:Nat)(a0:Aj):Option Aj:=some a0
theorem jI{d e:Aj}(f:VS n d=some e):
 Calls prog 9 [.agg #[.i d.Setup,.i d.Hold,.i d.Uncertainty]].toArray w (DA fun m g=>m= .agg #[.i e.Setup,.i e.Hold,.i e.Uncertainty]∧AJ w g):=by
 unfold VS at f;refine AA func9 z ntmps9 (Rc 2 (Ef z (AF z z) ?_));rintro _ g ⟨B,rfl,C,D,h,a⟩;have E:=h.size;refine Ef z (AY z gC) ?_;rintro _ F ⟨G,rfl,I,J,i,b⟩;have⟨o,K⟩:=Et h i;have a:=a.ext i;refine Ro 4 (Ef z (AY z gC) ?_);rintro _ L ⟨M,rfl,N,O,j,c⟩;have⟨p,P⟩:=Et o j;have⟨a,b⟩:=CB a b j;refine Ro 4 (Fl bY AI a (Yl z (BF z Lm) (Ef z (Cu z c Ap z z) ?_)));rintro _ Q ⟨k,q⟩;have⟨r,R⟩:=Eu p k;have⟨a,b⟩:=Ky a b k;have c:=q;refine Ro 4 (Fl eR AI a (Yl z (BF z Ls) (Ef z (Cu z c Ap z z) ?_)));rintro _ S ⟨H,s⟩;have⟨t,T⟩:=Eu r H;have⟨a,b⟩:=Ky a b H;have c:=s;refine Ro 4 (Fl bP AI a (Yl z (BF z IH) (Ef z (Cu z c Ap z z) ?_)));rintro _ U ⟨l,u⟩;have⟨v,V⟩:=Eu t l;have b:=b.upd l (by omega);have c:=u;refine Ro 4 (Yl z (CC z HV c Gt) (Ef z (Cu z b Gt z z) ?_));rintro _ W ⟨x,y⟩;have⟨A,X⟩:=Eu v x;have b:=y;obtain rfl:=(Sy f);exact Ro 3 (UW b HV Gt ⟨_,z,z,A⟩)
def RI(n:Nat)(a0:AV)(a1:AV):Option Bool:=cond (a0.Early !=a1.Early) (some false) (cond (a0.Late !=a1.Late) (some false) (some true))
theorem pX{c d:AV}{f:Bool}(a:RI n c d=some f):
 Calls prog 77 [.agg #[.i c.Early,.i c.Late],.agg #[.i d.Early,.i d.Late]].toArray w (Ao (.bool f) w):=by
 unfold RI at a;refine AA func77 z ntmps77 (Rc 2 (Ef z (AF z z) ?_));rintro _ i ⟨j,rfl,k,l,g,b⟩;have m:=g.size;refine Ef z (AF z z) ?_;rintro _ o ⟨p,rfl,q,r,H,h⟩;have⟨e,s⟩:=Et g H;have b:=b.ext H;refine Ro 6 (Fl Bb AI b (Fl Bb AI h (Ro 3 (Wt a e ?_))));intro a;refine Rc 5 (Fl BW AI b (Fl BW AI h (Ro 3 (Wt a e ?_))));intro a;exact Iy a e
def Rt(n:Nat)(a0:AG)(a1:AG):Option Bool:=cond (a0.Node !=a1.Node) (some false) ((RI n a0.Required a1.Required).bind fun a=>cond (!a) (some false) (some true))
theorem wP{a b:AG}{e:Bool}(c:Rt n a b=some e):
 Calls prog 36 [.agg #[.i a.Node,.i a.Required.Early,.i a.Required.Late],.agg #[.i b.Node,.i b.Required.Early,.i b.Required.Late]].toArray w (Ao (.bool e) w):=by
 unfold Rt at c;refine AA func36 z ntmps36 (Rc 2 (Ef z (AF z z) ?_));rintro _ j ⟨k,rfl,l,m,H,d⟩;have o:=H.size;refine Ef z (AF z z) ?_;rintro _ p ⟨q,rfl,r,s,f,g⟩;have⟨h,t⟩:=Et H f;have d:=d.ext f;refine Ro 6 (Fl LV AI d (Fl LV AI g (Ro 3 (Wt c h ?_))));intro c;refine Rc 5 (Yl z (BF z Dw) (Yl z (CJ (us:=[.i a.Required.Early,.i a.Required.Late]) z FF (AM.sub (BK.cells d) 1 2:AM _ _ _ [.i a.Required.Early,.i a.Required.Late]) BY) (Yl z (BF z Dw) (Yl z (CJ (us:=[.i b.Required.Early,.i b.Required.Late]) z FF (AM.sub (BK.cells g) 1 2:AM _ _ _ [.i b.Required.Early,.i b.Required.Late]) BY) ?_))));refine Cs c h fK (fun _=>pX) ?_;rintro u c v x ⟨i,y⟩;refine Ro 3 (Wt c i ?_);intro c;exact Iy c i
def KT(n:Nat)(a0:List AG)(a1:List AG)(k0:Int->Option Bool):Nat->Int->Option Bool
 |0,_=>none
 |m+1,a=>cond (decide (a<(a0.length:Int))) ((AE a0 a).bind fun d=>(AE a1 a).bind fun b=>(Rt n d b).bind fun c=>cond (!c) (some false) (KT n a0 a1 k0 m (wrap .i64 (a+1)))) (k0 a)
def SC(n:Nat)(a0:List AG)(a1:List AG):Option Bool:=cond (((a0.length:Int)) !=((a1.length:Int))) (some false) (KT n a0 a1 (fun a=>some true) n 0)
theorem kM{g h:List AG}{i:Bool}{j k:Value}(a:SC n g h=some i)(A:H<=w.heap.size)(l:AR C_Target w H g j)(q:AR C_Target w H h k):
 Calls prog 11 [j,k].toArray w (Ao (.bool i) w):=by
 have m:=AJ.refl w;unfold SC at a;refine AA func11 z ntmps11 (Rc 9 (Yl z (Bs z Cz (l.oj m)) (Ro 1 (Yl z (Bs z Cz (q.oj m)) (Ro 3 (Wt a m ?_))))));intro a;refine Rc 9 (WC.loopD (fun c f wl=>∃d:Int,Kn 27 [(0,j),(1,k),(5,.i d)] f∧AJ w wl∧KT n g h (fun d=>(some true)) c d=some i) n ?_ ?_)
 ·intro f e;exact⟨0,e.sub z,AJ.refl _,a⟩
 ·rintro c f B ⟨d,e,b,a⟩;refine By e ?_;rcases c with _|c;exact Bx a;rw [KT.eq_2]at a;have C:=b.size;refine Rc 5 (Yl z (Bs z Cz (l.oj b)) (Ro 3 (Wf a b ?_)));intro a;refine Rc 5 (BX Tryz.hm (Qr 2 (Iq a (l.oj b) Cz DJ ?_)));rintro o D a _ ⟨E,F,G,rfl,I,s,t⟩;obtain rfl:=BJ s;refine Qy z (CJ (us:=[.i o.Node,.i o.Required.Early,.i o.Required.Late]) z QD t DJ) (Qr 2 (Iq a (q.oj b) Cz DJ ?_));rintro p J a _ ⟨K,L,M,rfl,N,u,v⟩;obtain rfl:=BJ u;refine Qy z (CJ (us:=[.i p.Node,.i p.Required.Early,.i p.Required.Late]) z QD v DJ) ?_;have⟨O,x,a⟩:=AH a;refine Ql z (Iz z oL fun w' hw'=>(wP x:)) ?_;refine Qr 1 ?_;refine QL.done fun P r=>?_;have⟨y,Q⟩:=Et b r;refine Re 1 (Wt a y ?_);intro a;refine Rc 9 ?_;intro f e;exact⟨c,nr,(wrap .i64 (d+1)),e.sub z,(AJ.trans b r),a⟩
def MD(a0:List Int)(a1:List Int)(k0:Int->Option Bool):Nat->Int->Option Bool
 |0,_=>none
 |m+1,a=>cond (decide (a<(a0.length:Int))) ((AE a0 a).bind fun c=>(AE a1 a).bind fun b=>cond (c !=b) (some false) (MD a0 a1 k0 m (wrap .i64 (a+1)))) (k0 a)
def UL(n:Nat)(a0:List Int)(a1:List Int):Option Bool:=cond (((a0.length:Int)) !=((a1.length:Int))) (some false) (MD a0 a1 (fun a=>some true) n 0)
theorem aH{g h:List Int}{i:Bool}{j k:Value}(a:UL n g h=some i)(r:H<=w.heap.size)(l:AR (AL .i64) w H g j)(o:AR (AL .i64) w H h k):
 Calls prog 119 [j,k].toArray w (Ao (.bool i) w):=by
 have m:=AJ.refl w;unfold UL at a;refine AA func119 z ntmps119 (Rc 9 (Yl z (Bs z Af (l.oj m)) (Ro 1 (Yl z (Bs z Af (o.oj m)) (Ro 3 (Wt a m ?_))))));intro a;refine Rc 9 (WC.loopD (fun c f wl=>∃d:Int,Kn 26 [(0,j),(1,k),(5,.i d)] f∧AJ w wl∧MD g h (fun d=>(some true)) c d=some i) n ?_ ?_)
 ·intro f e;exact⟨0,e.sub z,AJ.refl _,a⟩
 ·rintro c f s ⟨d,e,b,a⟩;refine By e ?_;rcases c with _|c;exact Bx a;rw [MD.eq_2]at a;have t:=b.size;refine Rc 5 (Yl z (Bs z Af (l.oj b)) (Ro 3 (Wf a b ?_)));intro a;refine Rc 5 (BX Tryz.hm (Qr 2 (OI a (l.oj b) Af Ap AI ?_)));rintro u a _;refine Qr 2 (OI a (o.oj b) Af Ap AI ?_);rintro v a _;refine Qr 1 ?_;refine QL.done fun x p=>?_;have⟨q,y⟩:=Et b p;refine Re 1 (Wt a q ?_);intro a;refine Rc 9 ?_;intro f e;exact⟨c,nr,(wrap .i64 (d+1)),e.sub z,(AJ.trans b p),a⟩
def Rz(n:Nat)(a0:BD)(a1:BD):Option Bool:=cond (a0.Name.toList !=a1.Name.toList) (some false) (cond (a0.Dir !=a1.Dir) (some false) (cond (a0.Cap !=a1.Cap) (some false) (cond (a0.Clock !=a1.Clock) (some false) (some true))))
theorem yA{c d:BD}{g:Bool}(a:Rz n c d=some g):
 Calls prog 178 [.agg #[.string c.Name,.i c.Dir,.i c.Cap,.bool c.Clock],.agg #[.string d.Name,.i d.Dir,.i d.Cap,.bool d.Clock]].toArray w (Ao (.bool g) w):=by
 unfold Rz at a;refine AA func178 z ntmps178 (Rc 2 (Ef z (AF z z) ?_));rintro _ i ⟨j,rfl,k,l,h,b⟩;have m:=h.size;refine Ef z (AF z z) ?_;rintro _ o ⟨p,rfl,q,r,H,f⟩;have⟨e,s⟩:=Et h H;have b:=b.ext H;refine Ro 6 (Fl Fj Dl b (Fl Fj Dl f (Ro 3 (Wt a e ?_))));intro a;refine Rc 5 (Fl Fh AI b (Fl Fh AI f (Ro 3 (Wt a e ?_))));intro a;refine Rc 5 (Fl Es AI b (Fl Es AI f (Ro 3 (Wt a e ?_))));intro a;refine Rc 5 (Fl CX Ed b (Fl CX Ed f (Yl z (Mw z sX z z) (Ro 2 (Wt a e ?_)))));intro a;exact Iy a e
def Jp(n:Nat)(a0:List BD)(a1:List BD)(k0:Int->Option Bool):Nat->Int->Option Bool
 |0,_=>none
 |m+1,a=>cond (decide (a<(a0.length:Int))) ((AE a0 a).bind fun d=>(AE a1 a).bind fun b=>(Rz n d b).bind fun c=>cond (!c) (some false) (Jp n a0 a1 k0 m (wrap .i64 (a+1)))) (k0 a)
def Yr(n:Nat)(a0:List BD)(a1:List BD):Option Bool:=cond (((a0.length:Int)) !=((a1.length:Int))) (some false) (Jp n a0 a1 (fun a=>some true) n 0)
theorem zH{i j:List BD}{k:Bool}{l m:Value}(a:Yr n i j=some k)(A:H<=w.heap.size)(o:AR C_Pin w H i l)(q:AR C_Pin w H j m):
 Calls prog 149 [l,m].toArray w (Ao (.bool k) w):=by
 have p:=AJ.refl w;unfold Yr at a;refine AA func149 z ntmps149 (Rc 9 (Yl z (Bs z CU (o.oj p)) (Ro 1 (Yl z (Bs z CU (q.oj p)) (Ro 3 (Wt a p ?_))))));intro a;refine Rc 9 (WC.loopD (fun c f wl=>∃d:Int,Kn 27 [(0,l),(1,m),(5,.i d)] f∧AJ w wl∧Jp n i j (fun d=>(some true)) c d=some k) n ?_ ?_)
 ·intro f e;exact⟨0,e.sub z,AJ.refl _,a⟩
 ·rintro c f B ⟨d,e,b,a⟩;refine By e ?_;rcases c with _|c;exact Bx a;rw [Jp.eq_2]at a;have C:=b.size;refine Rc 5 (Yl z (Bs z CU (o.oj b)) (Ro 3 (Wf a b ?_)));intro a;refine Rc 5 (BX Tryz.hm (Qr 2 (Iq a (o.oj b) CU Bt ?_)));rintro g D a _ ⟨E,F,G,rfl,I,s,t⟩;obtain rfl:=Bg s;refine Qy z (CJ (us:=[.string g.Name,.i g.Dir,.i g.Cap,.bool g.Clock]) z JF t Bt) (Qr 2 (Iq a (q.oj b) CU Bt ?_));rintro h J a _ ⟨K,L,M,rfl,N,u,v⟩;obtain rfl:=Bg u;refine Qy z (CJ (us:=[.string h.Name,.i h.Dir,.i h.Cap,.bool h.Clock]) z JF v Bt) ?_;have⟨O,x,a⟩:=AH a;refine Ql z (Iz z nC fun w' hw'=>(yA x:)) ?_;refine Qr 1 ?_;refine QL.done fun P r=>?_;have⟨y,Q⟩:=Et b r;refine Re 1 (Wt a y ?_);intro a;refine Rc 9 ?_;intro f e;exact⟨c,nr,(wrap .i64 (d+1)),e.sub z,(AJ.trans b r),a⟩
def Su(n:Nat)(a0:AS)(a1:AS):Option Bool:=(UL n a0.Slews a1.Slews).bind fun b=>cond (!b) (some false) ((UL n a0.Loads a1.Loads).bind fun c=>cond (!c) (some false) ((UL n a0.Values a1.Values).bind fun a=>cond (!a) (some false) (some true)))
theorem AbZ{e f:AS}{j:Bool}{k l m o p q:Value}(a:Su n e f=some j)(E:H<=w.heap.size)(u:AR (AL .i64) w H e.Slews k)(v:AR (AL .i64) w H e.Loads l)(x:AR (AL .i64) w H e.Values m)(y:AR (AL .i64) w H f.Slews o)(A:AR (AL .i64) w H f.Loads p)(B:AR (AL .i64) w H f.Values q):
 Calls prog 207 [.agg #[k,l,m],.agg #[o,p,q]].toArray w (Ao (.bool j) w):=by
 unfold Su at a;refine AA func207 z ntmps207 (Rc 2 (Ef z (AF z z) ?_));rintro _ F ⟨G,rfl,I,J,r,b⟩;have K:=r.size;refine Ef z (AF z z) ?_;rintro _ L ⟨M,rfl,N,O,s,c⟩;have⟨i,P⟩:=Et r s;have b:=b.ext s;refine Ro 6 (Fl EQ Ad b (Fl EQ Ad c ?_));refine Cs a i Ie (fun _ d=>(aH d (by omega) (u.oj i) (y.oj i):)) ?_;rintro Q a R C ⟨g,S⟩;have⟨b,c⟩:=CB b c C;refine Ro 3 (Wt a g ?_);intro a;refine Rc 5 (Fl Dk Ad b (Fl Dk Ad c ?_));refine Cs a g Ie (fun _ d=>(aH d (by omega) (v.oj g) (A.oj g):)) ?_;rintro T a U D ⟨h,V⟩;have⟨b,c⟩:=CB b c D;refine Ro 3 (Wt a h ?_);intro a;refine Rc 5 (Fl CF Ad b (Fl CF Ad c ?_));refine Cs a h Ie (fun _ d=>(aH d (by omega) (x.oj h) (B.oj h):)) ?_;rintro W a X Y ⟨t,Z⟩;refine Ro 3 (Wt a t ?_);intro a;exact Iy a t
def Jw(n:Nat)(a0:List AS)(a1:List AS)(k0:Int->Option Bool):Nat->Int->Option Bool
 |0,_=>none
 |m+1,a=>cond (decide (a<(a0.length:Int))) ((AE a0 a).bind fun d=>(AE a1 a).bind fun b=>(Su n d b).bind fun c=>cond (!c) (some false) (Jw n a0 a1 k0 m (wrap .i64 (a+1)))) (k0 a)
def VF(n:Nat)(a0:List AS)(a1:List AS):Option Bool:=cond (((a0.length:Int)) !=((a1.length:Int))) (some false) (Jw n a0 a1 (fun a=>some true) n 0)
theorem pQ{g h:List AS}{i:Bool}{j k:Value}(a:VF n g h=some i)(hH:H<=w.heap.size)(l:AR C_Table w H g j)(o:AR C_Table w H h k):
 Calls prog 195 [j,k].toArray w (Ao (.bool i) w):=by
 have m:=AJ.refl w;unfold VF at a;refine AA func195 z ntmps195 (Rc 9 (Yl z (Bs z GK (l.oj m)) (Ro 1 (Yl z (Bs z GK (o.oj m)) (Ro 3 (Wt a m ?_))))));intro a;refine Rc 9 (WC.loopD (fun c f wl=>∃d:Int,Kn 27 [(0,j),(1,k),(5,.i d)] f∧AJ w wl∧Jw n g h (fun d=>(some true)) c d=some i) n ?_ ?_)
 ·intro f e;exact⟨0,e.sub z,AJ.refl _,a⟩
 ·rintro c f L ⟨d,e,b,a⟩;refine By e ?_;rcases c with _|c;exact Bx a;rw [Jw.eq_2]at a;have M:=b.size;refine Rc 5 (Yl z (Bs z GK (l.oj b)) (Ro 3 (Wf a b ?_)));intro a;refine Rc 5 (BX Tryz.hm (Qr 2 (Iq a (l.oj b) GK Cy ?_)));rintro N O a _ ⟨P,Q,R,rfl,S,q,r⟩;obtain⟨s,t,u,rfl,v,x,y⟩:=Co q;refine Qy z (CJ (us:=[s,t,u]) z HP r Cy) (Qr 2 (Iq a (o.oj b) GK Cy ?_));rintro T U a _ ⟨V,W,X,rfl,Y,A,B⟩;obtain⟨C,D,E,rfl,F,G,I⟩:=Co A;refine Qy z (CJ (us:=[C,D,E]) z HP B Cy) ?_;have⟨Z,J,a⟩:=AH a;refine Ql z (Iz z gT fun w' hw'=>(AbZ J (Nat.le_trans (by omega) (hw').size) (v.old hw' (by omega)) (x.old hw' (by omega)) (y.old hw' (by omega)) (F.old hw' (by omega)) (G.old hw' (by omega)) (I.old hw' (by omega)):)) ?_;refine Qr 1 ?_;refine QL.done fun a0 p=>?_;have⟨K,b0⟩:=Et b p;refine Re 1 (Wt a K ?_);intro a;refine Rc 9 ?_;intro f e;exact⟨c,nr,(wrap .i64 (d+1)),e.sub z,(AJ.trans b p),a⟩
def SP(n:Nat)(a0:Ah)(a1:Ah):Option Bool:=cond (a0.Kind !=a1.Kind) (some false) (cond (a0.From !=a1.From) (some false) (cond (a0.To !=a1.To) (some false) (cond (a0.Sense !=a1.Sense) (some false) ((VF n a0.Delay a1.Delay).bind fun a=>cond (!a) (some false) ((VF n a0.Slew a1.Slew).bind fun b=>cond (!b) (some false) (some true))))))
theorem vW{d e:Ah}{i:Bool}{j k l m:Value}(a:SP n d e=some i)(x:H<=w.heap.size)(r:AR C_Table w H d.Delay j)(s:AR C_Table w H d.Slew k)(t:AR C_Table w H e.Delay l)(u:AR C_Table w H e.Slew m):
 Calls prog 179 [.agg #[.i d.Kind,.i d.From,.i d.To,.i d.Sense,j,k],.agg #[.i e.Kind,.i e.From,.i e.To,.i e.Sense,l,m]].toArray w (Ao (.bool i) w):=by
 unfold SP at a;refine AA func179 z ntmps179 (Rc 2 (Ef z (AF z z) ?_));rintro _ y ⟨A,rfl,B,C,o,b⟩;have D:=o.size;refine Ef z (AF z z) ?_;rintro _ E ⟨F,rfl,G,I,p,c⟩;have⟨f,J⟩:=Et o p;have b:=b.ext p;refine Ro 6 (Fl Bo AI b (Fl Bo AI c (Ro 3 (Wt a f ?_))));intro a;refine Rc 5 (Fl Cb AI b (Fl Cb AI c (Ro 3 (Wt a f ?_))));intro a;refine Rc 5 (Fl Bv AI b (Fl Bv AI c (Ro 3 (Wt a f ?_))));intro a;refine Rc 5 (Fl DF AI b (Fl DF AI c (Ro 3 (Wt a f ?_))));intro a;refine Rc 5 (Fl Db DX b (Fl Db DX c ?_));refine Cs a f Xa (fun _ h=>(pQ h (by omega) (r.oj f) (t.oj f):)) ?_;rintro K a L v ⟨g,M⟩;have⟨b,c⟩:=CB b c v;refine Ro 3 (Wt a g ?_);intro a;refine Rc 5 (Fl EN DX b (Fl EN DX c ?_));refine Cs a g Xa (fun _ h=>(pQ h (by omega) (s.oj g) (u.oj g):)) ?_;rintro N a O P ⟨q,Q⟩;refine Ro 3 (Wt a q ?_);intro a;exact Iy a q
def KS(n:Nat)(a0:List Ah)(a1:List Ah)(k0:Int->Option Bool):Nat->Int->Option Bool
 |0,_=>none
 |m+1,a=>cond (decide (a<(a0.length:Int))) ((AE a0 a).bind fun d=>(AE a1 a).bind fun b=>(SP n d b).bind fun c=>cond (!c) (some false) (KS n a0 a1 k0 m (wrap .i64 (a+1)))) (k0 a)
def Zd(n:Nat)(a0:List Ah)(a1:List Ah):Option Bool:=cond (((a0.length:Int)) !=((a1.length:Int))) (some false) (KS n a0 a1 (fun a=>some true) n 0)
theorem zM{i j:List Ah}{k:Bool}{l m:Value}(a:Zd n i j=some k)(J:H<=w.heap.size)(o:AR C_Arc w H i l)(q:AR C_Arc w H j m):
 Calls prog 150 [l,m].toArray w (Ao (.bool k) w):=by
 have p:=AJ.refl w;unfold Zd at a;refine AA func150 z ntmps150 (Rc 9 (Yl z (Bs z Bj (o.oj p)) (Ro 1 (Yl z (Bs z Bj (q.oj p)) (Ro 3 (Wt a p ?_))))));intro a;refine Rc 9 (WC.loopD (fun c f wl=>∃d:Int,Kn 27 [(0,l),(1,m),(5,.i d)] f∧AJ w wl∧KS n i j (fun d=>(some true)) c d=some k) n ?_ ?_)
 ·intro f e;exact⟨0,e.sub z,AJ.refl _,a⟩
 ·rintro c f K ⟨d,e,b,a⟩;refine By e ?_;rcases c with _|c;exact Bx a;rw [KS.eq_2]at a;have L:=b.size;refine Rc 5 (Yl z (Bs z Bj (o.oj b)) (Ro 3 (Wf a b ?_)));intro a;refine Rc 5 (BX Tryz.hm (Qr 2 (Iq a (o.oj b) Bj BL ?_)));rintro g M a _ ⟨N,O,P,rfl,Q,s,t⟩;obtain⟨u,v,rfl,x,y⟩:=BP s;refine Qy z (CJ (us:=[.i g.Kind,.i g.From,.i g.To,.i g.Sense,u,v]) z Dz t BL) (Qr 2 (Iq a (q.oj b) Bj BL ?_));rintro h R a _ ⟨S,T,U,rfl,V,A,B⟩;obtain⟨C,D,rfl,E,F⟩:=BP A;refine Qy z (CJ (us:=[.i h.Kind,.i h.From,.i h.To,.i h.Sense,C,D]) z Dz B BL) ?_;have⟨W,G,a⟩:=AH a;refine Ql z (Iz z jN fun w' hw'=>(vW G (Nat.le_trans (by omega) (hw').size) (x.old hw' (by omega)) (y.old hw' (by omega)) (E.old hw' (by omega)) (F.old hw' (by omega)):)) ?_;refine Qr 1 ?_;refine QL.done fun X r=>?_;have⟨I,Y⟩:=Et b r;refine Re 1 (Wt a I ?_);intro a;refine Rc 9 ?_;intro f e;exact⟨c,nr,(wrap .i64 (d+1)),e.sub z,(AJ.trans b r),a⟩
def Sd(n:Nat)(a0:AX)(a1:AX):Option Bool:=cond (a0.Name.toList !=a1.Name.toList) (some false) (cond (a0.Kind !=a1.Kind) (some false) ((Yr n a0.Pins a1.Pins).bind fun b=>cond (!b) (some false) ((Zd n a0.Arcs a1.Arcs).bind fun c=>cond (!c) (some false) ((UL n a0.Truth a1.Truth).bind fun a=>cond (!a) (some false) (cond (a0.Leak !=a1.Leak) (some false) (cond (a0.Energy !=a1.Energy) (some false) (some true)))))))
theorem AcI{d e:AX}{k:Bool}{l m o p q r:Value}(a:Sd n d e=some k)(F:H<=w.heap.size)(u:AR C_Pin w H d.Pins l)(v:AR C_Arc w H d.Arcs m)(x:AR (AL .i64) w H d.Truth o)(y:AR C_Pin w H e.Pins p)(A:AR C_Arc w H e.Arcs q)(B:AR (AL .i64) w H e.Truth r):
 Calls prog 116 [.agg #[.string d.Name,.i d.Kind,l,m,o,.i d.Leak,.i d.Energy],.agg #[.string e.Name,.i e.Kind,p,q,r,.i e.Leak,.i e.Energy]].toArray w (Ao (.bool k) w):=by
 unfold Sd at a;refine AA func116 z ntmps116 (Rc 2 (Ef z (AF z z) ?_));rintro _ G ⟨I,rfl,J,K,s,b⟩;have L:=s.size;refine Ef z (AF z z) ?_;rintro _ M ⟨N,rfl,O,P,t,c⟩;have⟨f,Q⟩:=Et s t;have b:=b.ext t;refine Ro 6 (Fl Eh Dl b (Fl Eh Dl c (Ro 3 (Wt a f ?_))));intro a;refine Rc 5 (Fl Ek AI b (Fl Ek AI c (Ro 3 (Wt a f ?_))));intro a;refine Rc 5 (Fl Bk Cr b (Fl Bk Cr c ?_));refine Cs a f lQ (fun _ g=>(zH g (by omega) (u.oj f) (y.oj f):)) ?_;rintro R a S C ⟨h,T⟩;have⟨b,c⟩:=CB b c C;refine Ro 3 (Wt a h ?_);intro a;refine Rc 5 (Fl Be Cd b (Fl Be Cd c ?_));refine Cs a h iC (fun _ g=>(zM g (by omega) (v.oj h) (A.oj h):)) ?_;rintro U a V D ⟨i,W⟩;have⟨b,c⟩:=CB b c D;refine Ro 3 (Wt a i ?_);intro a;refine Rc 5 (Fl DS Ad b (Fl DS Ad c ?_));refine Cs a i Ie (fun _ g=>(aH g (by omega) (x.oj i) (B.oj i):)) ?_;rintro X a Y E ⟨j,Z⟩;have⟨b,c⟩:=CB b c E;refine Ro 3 (Wt a j ?_);intro a;refine Rc 5 (Fl Ha AI b (Fl Ha AI c (Ro 3 (Wt a j ?_))));intro a;refine Rc 5 (Fl Hd AI b (Fl Hd AI c (Ro 3 (Wt a j ?_))));intro a;exact Iy a j
def Jy(n:Nat)(a0:List AX)(a1:List AX)(k0:Int->Option Bool):Nat->Int->Option Bool
 |0,_=>none
 |m+1,a=>cond (decide (a<(a0.length:Int))) ((AE a0 a).bind fun d=>(AE a1 a).bind fun b=>(Sd n d b).bind fun c=>cond (!c) (some false) (Jy n a0 a1 k0 m (wrap .i64 (a+1)))) (k0 a)
def XT(n:Nat)(a0:List AX)(a1:List AX):Option Bool:=cond (((a0.length:Int)) !=((a1.length:Int))) (some false) (Jy n a0 a1 (fun a=>some true) n 0)
theorem AaK{i j:List AX}{k:Bool}{l m:Value}(a:XT n i j=some k)(hH:H<=w.heap.size)(o:AR C_Cell w H i l)(q:AR C_Cell w H j m):
 Calls prog 78 [l,m].toArray w (Ao (.bool k) w):=by
 have p:=AJ.refl w;unfold XT at a;refine AA func78 z ntmps78 (Rc 9 (Yl z (Bs z EA (o.oj p)) (Ro 1 (Yl z (Bs z EA (q.oj p)) (Ro 3 (Wt a p ?_))))));intro a;refine Rc 9 (WC.loopD (fun c f wl=>∃d:Int,Kn 27 [(0,l),(1,m),(5,.i d)] f∧AJ w wl∧Jy n i j (fun d=>(some true)) c d=some k) n ?_ ?_)
 ·intro f e;exact⟨0,e.sub z,AJ.refl _,a⟩
 ·rintro c f N ⟨d,e,b,a⟩;refine By e ?_;rcases c with _|c;exact Bx a;rw [Jy.eq_2]at a;have O:=b.size;refine Rc 5 (Yl z (Bs z EA (o.oj b)) (Ro 3 (Wf a b ?_)));intro a;refine Rc 5 (BX Tryz.hm (Qr 2 (Iq a (o.oj b) EA BA ?_)));rintro g P a _ ⟨Q,R,S,rfl,T,s,t⟩;obtain⟨u,v,x,rfl,y,A,B⟩:=BV s;refine Qy z (CJ (us:=[.string g.Name,.i g.Kind,u,v,x,.i g.Leak,.i g.Energy]) z CI t BA) (Qr 2 (Iq a (q.oj b) EA BA ?_));rintro h U a _ ⟨V,W,X,rfl,Y,C,D⟩;obtain⟨E,F,G,rfl,I,J,K⟩:=BV C;refine Qy z (CJ (us:=[.string h.Name,.i h.Kind,E,F,G,.i h.Leak,.i h.Energy]) z CI D BA) ?_;have⟨Z,L,a⟩:=AH a;refine Ql z (Iz z kF fun w' hw'=>(AcI L (Nat.le_trans (by omega) (hw').size) (y.old hw' (by omega)) (A.old hw' (by omega)) (B.old hw' (by omega)) (I.old hw' (by omega)) (J.old hw' (by omega)) (K.old hw' (by omega)):)) ?_;refine Qr 1 ?_;refine QL.done fun a0 r=>?_;have⟨M,b0⟩:=Et b r;refine Re 1 (Wt a M ?_);intro a;refine Rc 9 ?_;intro f e;exact⟨c,nr,(wrap .i64 (d+1)),e.sub z,(AJ.trans b r),a⟩
def Wi(n:Nat)(a0:Ab)(a1:Ab):Option Bool:=(XT n a0.Cells a1.Cells).bind fun a=>cond (!a) (some false) (some true)
theorem vG{d e:Ab}{f:Bool}{g h:Value}(a:Wi n d e=some f)(q:H<=w.heap.size)(l:AR C_Cell w H d.Cells g)(m:AR C_Cell w H e.Cells h):
 Calls prog 37 [.agg #[g],.agg #[h]].toArray w (Ao (.bool f) w):=by
 unfold Wi at a;refine AA func37 z ntmps37 (Rc 2 (Ef z (AF z z) ?_));rintro _ r ⟨s,rfl,t,u,i,b⟩;have v:=i.size;refine Ef z (AF z z) ?_;rintro _ x ⟨y,rfl,A,B,j,o⟩;have⟨c,C⟩:=Et i j;have b:=b.ext j;refine Ro 6 (Fl CH ED b (Fl CH ED o ?_));refine Cs a c rR (fun _ p=>(AaK p (by omega) (l.oj c) (m.oj c):)) ?_;rintro D a E F ⟨k,G⟩;refine Ro 3 (Wt a k ?_);intro a;exact Iy a k
def Rx(n:Nat)(a0:AO)(a1:AO):Option Bool:=cond (a0.Name.toList !=a1.Name.toList) (some false) (cond (a0.Cell !=a1.Cell) (some false) ((UL n a0.Nets a1.Nets).bind fun a=>cond (!a) (some false) (some true)))
theorem wW{d e:AO}{g:Bool}{h i:Value}(a:Rx n d e=some g)(q:H<=w.heap.size)(m:AR (AL .i64) w H d.Nets h)(o:AR (AL .i64) w H e.Nets i):
 Calls prog 117 [.agg #[.string d.Name,.i d.Cell,h],.agg #[.string e.Name,.i e.Cell,i]].toArray w (Ao (.bool g) w):=by
 unfold Rx at a;refine AA func117 z ntmps117 (Rc 2 (Ef z (AF z z) ?_));rintro _ r ⟨s,rfl,t,u,j,b⟩;have v:=j.size;refine Ef z (AF z z) ?_;rintro _ x ⟨y,rfl,A,B,k,f⟩;have⟨c,C⟩:=Et j k;have b:=b.ext k;refine Ro 6 (Fl HS Dl b (Fl HS Dl f (Ro 3 (Wt a c ?_))));intro a;refine Rc 5 (Fl CY AI b (Fl CY AI f (Ro 3 (Wt a c ?_))));intro a;refine Rc 5 (Fl Cf Ad b (Fl Cf Ad f ?_));refine Cs a c Ie (fun _ p=>(aH p (by omega) (m.oj c) (o.oj c):)) ?_;rintro D a E F ⟨l,G⟩;refine Ro 3 (Wt a l ?_);intro a;exact Iy a l
def KQ(n:Nat)(a0:List AO)(a1:List AO)(k0:Int->Option Bool):Nat->Int->Option Bool
 |0,_=>none
 |m+1,a=>cond (decide (a<(a0.length:Int))) ((AE a0 a).bind fun d=>(AE a1 a).bind fun b=>(Rx n d b).bind fun c=>cond (!c) (some false) (KQ n a0 a1 k0 m (wrap .i64 (a+1)))) (k0 a)
def XC(n:Nat)(a0:List AO)(a1:List AO):Option Bool:=cond (((a0.length:Int)) !=((a1.length:Int))) (some false) (KQ n a0 a1 (fun a=>some true) n 0)
theorem AcC{g h:List AO}{i:Bool}{j k:Value}(a:XC n g h=some i)(E:H<=w.heap.size)(l:AR C_Instance w H g j)(o:AR C_Instance w H h k):
 Calls prog 79 [j,k].toArray w (Ao (.bool i) w):=by
 have m:=AJ.refl w;unfold XC at a;refine AA func79 z ntmps79 (Rc 9 (Yl z (Bs z DV (l.oj m)) (Ro 1 (Yl z (Bs z DV (o.oj m)) (Ro 3 (Wt a m ?_))))));intro a;refine Rc 9 (WC.loopD (fun c f wl=>∃d:Int,Kn 27 [(0,j),(1,k),(5,.i d)] f∧AJ w wl∧KQ n g h (fun d=>(some true)) c d=some i) n ?_ ?_)
 ·intro f e;exact⟨0,e.sub z,AJ.refl _,a⟩
 ·rintro c f F ⟨d,e,b,a⟩;refine By e ?_;rcases c with _|c;exact Bx a;rw [KQ.eq_2]at a;have G:=b.size;refine Rc 5 (Yl z (Bs z DV (l.oj b)) (Ro 3 (Wf a b ?_)));intro a;refine Rc 5 (BX Tryz.hm (Qr 2 (Iq a (l.oj b) DV Ba ?_)));rintro p I a _ ⟨J,K,L,rfl,M,s,t⟩;obtain⟨u,rfl,v⟩:=As s;refine Qy z (CJ (us:=[.string p.Name,.i p.Cell,u]) z Fs t Ba) (Qr 2 (Iq a (o.oj b) DV Ba ?_));rintro q N a _ ⟨O,P,Q,rfl,R,x,y⟩;obtain⟨A,rfl,B⟩:=As x;refine Qy z (CJ (us:=[.string q.Name,.i q.Cell,A]) z Fs y Ba) ?_;have⟨S,C,a⟩:=AH a;refine Ql z (Iz z mJ fun w' hw'=>(wW C (Nat.le_trans (by omega) (hw').size) (v.old hw' (by omega)) (B.old hw' (by omega)):)) ?_;refine Qr 1 ?_;refine QL.done fun T r=>?_;have⟨D,U⟩:=Et b r;refine Re 1 (Wt a D ?_);intro a;refine Rc 9 ?_;intro f e;exact⟨c,nr,(wrap .i64 (d+1)),e.sub z,(AJ.trans b r),a⟩
def Jr(a0:List ByteArray)(a1:List ByteArray)(k0:Int->Option Bool):Nat->Int->Option Bool
 |0,_=>none
 |m+1,a=>cond (decide (a<(a0.length:Int))) ((AE a0 a).bind fun c=>(AE a1 a).bind fun b=>cond (c.toList !=b.toList) (some false) (Jr a0 a1 k0 m (wrap .i64 (a+1)))) (k0 a)
def Xh(n:Nat)(a0:List ByteArray)(a1:List ByteArray):Option Bool:=cond (((a0.length:Int)) !=((a1.length:Int))) (some false) (Jr a0 a1 (fun a=>some true) n 0)
theorem vP{g h:List ByteArray}{i:Bool}{j k:Value}(a:Xh n g h=some i)(r:H<=w.heap.size)(l:AR At w H g j)(o:AR At w H h k):
 Calls prog 80 [j,k].toArray w (Ao (.bool i) w):=by
 have m:=AJ.refl w;unfold Xh at a;refine AA func80 z ntmps80 (Rc 9 (Yl z (Bs z Cj (l.oj m)) (Ro 1 (Yl z (Bs z Cj (o.oj m)) (Ro 3 (Wt a m ?_))))));intro a;refine Rc 9 (WC.loopD (fun c f wl=>∃d:Int,Kn 26 [(0,j),(1,k),(5,.i d)] f∧AJ w wl∧Jr g h (fun d=>(some true)) c d=some i) n ?_ ?_)
 ·intro f e;exact⟨0,e.sub z,AJ.refl _,a⟩
 ·rintro c f s ⟨d,e,b,a⟩;refine By e ?_;rcases c with _|c;exact Bx a;rw [Jr.eq_2]at a;have t:=b.size;refine Rc 5 (Yl z (Bs z Cj (l.oj b)) (Ro 3 (Wf a b ?_)));intro a;refine Rc 5 (BX Tryz.hm (Qr 2 (OI a (l.oj b) Cj GW Dl ?_)));rintro u a _;refine Qr 2 (OI a (o.oj b) Cj GW Dl ?_);rintro v a _;refine Qr 1 ?_;refine QL.done fun x p=>?_;have⟨q,y⟩:=Et b p;refine Re 1 (Wt a q ?_);intro a;refine Rc 9 ?_;intro f e;exact⟨c,nr,(wrap .i64 (d+1)),e.sub z,(AJ.trans b p),a⟩
def TD(n:Nat)(a0:BG)(a1:BG):Option Bool:=cond (a0.Name.toList !=a1.Name.toList) (some false) (cond (a0.Dir !=a1.Dir) (some false) (cond (a0.Net !=a1.Net) (some false) (some true)))
theorem zW{c d:BG}{g:Bool}(a:TD n c d=some g):
 Calls prog 118 [.agg #[.string c.Name,.i c.Dir,.i c.Net],.agg #[.string d.Name,.i d.Dir,.i d.Net]].toArray w (Ao (.bool g) w):=by
 unfold TD at a;refine AA func118 z ntmps118 (Rc 2 (Ef z (AF z z) ?_));rintro _ i ⟨j,rfl,k,l,h,b⟩;have m:=h.size;refine Ef z (AF z z) ?_;rintro _ o ⟨p,rfl,q,r,H,f⟩;have⟨e,s⟩:=Et h H;have b:=b.ext H;refine Ro 6 (Fl HY Dl b (Fl HY Dl f (Ro 3 (Wt a e ?_))));intro a;refine Rc 5 (Fl EE AI b (Fl EE AI f (Ro 3 (Wt a e ?_))));intro a;refine Rc 5 (Fl ER AI b (Fl ER AI f (Ro 3 (Wt a e ?_))));intro a;exact Iy a e
def KB(n:Nat)(a0:List BG)(a1:List BG)(k0:Int->Option Bool):Nat->Int->Option Bool
 |0,_=>none
 |m+1,a=>cond (decide (a<(a0.length:Int))) ((AE a0 a).bind fun d=>(AE a1 a).bind fun b=>(TD n d b).bind fun c=>cond (!c) (some false) (KB n a0 a1 k0 m (wrap .i64 (a+1)))) (k0 a)
def Wy(n:Nat)(a0:List BG)(a1:List BG):Option Bool:=cond (((a0.length:Int)) !=((a1.length:Int))) (some false) (KB n a0 a1 (fun a=>some true) n 0)
theorem vI{g h:List BG}{i:Bool}{j k:Value}(a:Wy n g h=some i)(A:H<=w.heap.size)(l:AR C_Port w H g j)(q:AR C_Port w H h k):
 Calls prog 81 [j,k].toArray w (Ao (.bool i) w):=by
 have m:=AJ.refl w;unfold Wy at a;refine AA func81 z ntmps81 (Rc 9 (Yl z (Bs z Ex (l.oj m)) (Ro 1 (Yl z (Bs z Ex (q.oj m)) (Ro 3 (Wt a m ?_))))));intro a;refine Rc 9 (WC.loopD (fun c f wl=>∃d:Int,Kn 27 [(0,j),(1,k),(5,.i d)] f∧AJ w wl∧KB n g h (fun d=>(some true)) c d=some i) n ?_ ?_)
 ·intro f e;exact⟨0,e.sub z,AJ.refl _,a⟩
 ·rintro c f B ⟨d,e,b,a⟩;refine By e ?_;rcases c with _|c;exact Bx a;rw [KB.eq_2]at a;have C:=b.size;refine Rc 5 (Yl z (Bs z Ex (l.oj b)) (Ro 3 (Wf a b ?_)));intro a;refine Rc 5 (BX Tryz.hm (Qr 2 (Iq a (l.oj b) Ex CO ?_)));rintro o D a _ ⟨E,F,G,rfl,I,s,t⟩;obtain rfl:=Br s;refine Qy z (CJ (us:=[.string o.Name,.i o.Dir,.i o.Net]) z LG t CO) (Qr 2 (Iq a (q.oj b) Ex CO ?_));rintro p J a _ ⟨K,L,M,rfl,N,u,v⟩;obtain rfl:=Br u;refine Qy z (CJ (us:=[.string p.Name,.i p.Dir,.i p.Net]) z LG v CO) ?_;have⟨O,x,a⟩:=AH a;refine Ql z (Iz z jH fun w' hw'=>(zW x:)) ?_;refine Qr 1 ?_;refine QL.done fun P r=>?_;have⟨y,Q⟩:=Et b r;refine Re 1 (Wt a y ?_);intro a;refine Rc 9 ?_;intro f e;exact⟨c,nr,(wrap .i64 (d+1)),e.sub z,(AJ.trans b r),a⟩
def WN(n:Nat)(a0:AP)(a1:AP):Option Bool:=(XC n a0.Instances a1.Instances).bind fun b=>cond (!b) (some false) ((Xh n a0.Nets a1.Nets).bind fun c=>cond (!c) (some false) ((Wy n a0.Ports a1.Ports).bind fun a=>cond (!a) (some false) (some true)))
theorem wO{e f:AP}{j:Bool}{k l m o p q:Value}(a:WN n e f=some j)(E:H<=w.heap.size)(u:AR C_Instance w H e.Instances k)(v:AR At w H e.Nets l)(x:AR C_Port w H e.Ports m)(y:AR C_Instance w H f.Instances o)(A:AR At w H f.Nets p)(B:AR C_Port w H f.Ports q):
 Calls prog 38 [.agg #[k,l,m],.agg #[o,p,q]].toArray w (Ao (.bool j) w):=by
 unfold WN at a;refine AA func38 z ntmps38 (Rc 2 (Ef z (AF z z) ?_));rintro _ F ⟨G,rfl,I,J,r,b⟩;have K:=r.size;refine Ef z (AF z z) ?_;rintro _ L ⟨M,rfl,N,O,s,c⟩;have⟨i,P⟩:=Et r s;have b:=b.ext s;refine Ro 6 (Fl Bq DP b (Fl Bq DP c ?_));refine Cs a i uP (fun _ d=>(AcC d (by omega) (u.oj i) (y.oj i):)) ?_;rintro Q a R C ⟨g,S⟩;have⟨b,c⟩:=CB b c C;refine Ro 3 (Wt a g ?_);intro a;refine Rc 5 (Fl Dx GE b (Fl Dx GE c ?_));refine Cs a g sI (fun _ d=>(vP d (by omega) (v.oj g) (A.oj g):)) ?_;rintro T a U D ⟨h,V⟩;have⟨b,c⟩:=CB b c D;refine Ro 3 (Wt a h ?_);intro a;refine Rc 5 (Fl Cm FE b (Fl Cm FE c ?_));refine Cs a h tJ (fun _ d=>(vI d (by omega) (x.oj h) (B.oj h):)) ?_;rintro W a X Y ⟨t,Z⟩;refine Ro 3 (Wt a t ?_);intro a;exact Iy a t
def SL(n:Nat)(a0:Ar)(a1:Ar):Option Bool:=(UL n a0.Parent a1.Parent).bind fun d=>cond (!d) (some false) ((UL n a0.Res a1.Res).bind fun b=>cond (!b) (some false) ((UL n a0.Cap a1.Cap).bind fun c=>cond (!c) (some false) ((UL n a0.Sink a1.Sink).bind fun a=>cond (!a) (some false) (some true))))
theorem xI{e f:Ar}{k:Bool}{l m o p q r s t:Value}(a:SL n e f=some k)(L:H<=w.heap.size)(y:AR (AL .i64) w H e.Parent l)(A:AR (AL .i64) w H e.Res m)(B:AR (AL .i64) w H e.Cap o)(C:AR (AL .i64) w H e.Sink p)(D:AR (AL .i64) w H f.Parent q)(E:AR (AL .i64) w H f.Res r)(F:AR (AL .i64) w H f.Cap s)(G:AR (AL .i64) w H f.Sink t):
 Calls prog 82 [.agg #[l,m,o,p],.agg #[q,r,s,t]].toArray w (Ao (.bool k) w):=by
 unfold SL at a;refine AA func82 z ntmps82 (Rc 2 (Ef z (AF z z) ?_));rintro _ M ⟨N,rfl,O,P,u,b⟩;have Q:=u.size;refine Ef z (AF z z) ?_;rintro _ R ⟨S,rfl,T,U,v,c⟩;have⟨j,V⟩:=Et u v;have b:=b.ext v;refine Ro 6 (Fl EB Ad b (Fl EB Ad c ?_));refine Cs a j Ie (fun _ d=>(aH d (by omega) (y.oj j) (D.oj j):)) ?_;rintro W a X I ⟨g,Y⟩;have⟨b,c⟩:=CB b c I;refine Ro 3 (Wt a g ?_);intro a;refine Rc 5 (Fl EG Ad b (Fl EG Ad c ?_));refine Cs a g Ie (fun _ d=>(aH d (by omega) (A.oj g) (E.oj g):)) ?_;rintro Z a a0 J ⟨h,b0⟩;have⟨b,c⟩:=CB b c J;refine Ro 3 (Wt a h ?_);intro a;refine Rc 5 (Fl FA Ad b (Fl FA Ad c ?_));refine Cs a h Ie (fun _ d=>(aH d (by omega) (B.oj h) (F.oj h):)) ?_;rintro c0 a d0 K ⟨i,e0⟩;have⟨b,c⟩:=CB b c K;refine Ro 3 (Wt a i ?_);intro a;refine Rc 5 (Fl EC Ad b (Fl EC Ad c ?_));refine Cs a i Ie (fun _ d=>(aH d (by omega) (C.oj i) (G.oj i):)) ?_;rintro f0 a g0 h0 ⟨x,i0⟩;refine Ro 3 (Wt a x ?_);intro a;exact Iy a x
def KR(n:Nat)(a0:List Ar)(a1:List Ar)(k0:Int->Option Bool):Nat->Int->Option Bool
 |0,_=>none
 |m+1,a=>cond (decide (a<(a0.length:Int))) ((AE a0 a).bind fun d=>(AE a1 a).bind fun b=>(SL n d b).bind fun c=>cond (!c) (some false) (KR n a0 a1 k0 m (wrap .i64 (a+1)))) (k0 a)
def Wu(n:Nat)(a0:List Ar)(a1:List Ar):Option Bool:=cond (((a0.length:Int)) !=((a1.length:Int))) (some false) (KR n a0 a1 (fun a=>some true) n 0)
theorem AaA{g h:List Ar}{i:Bool}{j k:Value}(a:Wu n g h=some i)(hH:H<=w.heap.size)(l:AR C_Wire w H g j)(o:AR C_Wire w H h k):
 Calls prog 39 [j,k].toArray w (Ao (.bool i) w):=by
 have m:=AJ.refl w;unfold Wu at a;refine AA func39 z ntmps39 (Rc 9 (Yl z (Bs z Fp (l.oj m)) (Ro 1 (Yl z (Bs z Fp (o.oj m)) (Ro 3 (Wt a m ?_))))));intro a;refine Rc 9 (WC.loopD (fun c f wl=>∃d:Int,Kn 27 [(0,j),(1,k),(5,.i d)] f∧AJ w wl∧KR n g h (fun d=>(some true)) c d=some i) n ?_ ?_)
 ·intro f e;exact⟨0,e.sub z,AJ.refl _,a⟩
 ·rintro c f P ⟨d,e,b,a⟩;refine By e ?_;rcases c with _|c;exact Bx a;rw [KR.eq_2]at a;have Q:=b.size;refine Rc 5 (Yl z (Bs z Fp (l.oj b)) (Ro 3 (Wf a b ?_)));intro a;refine Rc 5 (BX Tryz.hm (Qr 2 (Iq a (l.oj b) Fp CT ?_)));rintro R S a _ ⟨T,U,V,rfl,W,q,r⟩;obtain⟨s,t,u,v,rfl,x,y,A,B⟩:=Cp q;refine Qy z (CJ (us:=[s,t,u,v]) z HE r CT) (Qr 2 (Iq a (o.oj b) Fp CT ?_));rintro X Y a _ ⟨Z,a0,b0,rfl,c0,C,D⟩;obtain⟨E,F,G,I,rfl,J,K,L,M⟩:=Cp C;refine Qy z (CJ (us:=[E,F,G,I]) z HE D CT) ?_;have⟨d0,N,a⟩:=AH a;refine Ql z (Iz z sJ fun w' hw'=>(xI N (Nat.le_trans (by omega) (hw').size) (x.old hw' (by omega)) (y.old hw' (by omega)) (A.old hw' (by omega)) (B.old hw' (by omega)) (J.old hw' (by omega)) (K.old hw' (by omega)) (L.old hw' (by omega)) (M.old hw' (by omega)):)) ?_;refine Qr 1 ?_;refine QL.done fun e0 p=>?_;have⟨O,f0⟩:=Et b p;refine Re 1 (Wt a O ?_);intro a;refine Rc 9 ?_;intro f e;exact⟨c,nr,(wrap .i64 (d+1)),e.sub z,(AJ.trans b p),a⟩
def ZY(n:Nat)(a0:AQ)(a1:AQ):Option Bool:=(Wi n a0.Library a1.Library).bind fun b=>cond (!b) (some false) ((WN n a0.Design a1.Design).bind fun c=>cond (!c) (some false) ((Wu n a0.Wires a1.Wires).bind fun a=>cond (!a) (some false) (some true)))
theorem wX{e f:AQ}{s:Bool}{h i j k t l m o p u:Value}(a:ZY n e f=some s)(N:H<=w.heap.size)(A:AR C_Cell w H e.Library.Cells h)(B:AR C_Instance w H e.Design.Instances i)(C:AR At w H e.Design.Nets j)(D:AR C_Port w H e.Design.Ports k)(E:AR C_Wire w H e.Wires t)(F:AR C_Cell w H f.Library.Cells l)(G:AR C_Instance w H f.Design.Instances m)(I:AR At w H f.Design.Nets o)(J:AR C_Port w H f.Design.Ports p)(K:AR C_Wire w H f.Wires u):
 Calls prog 12 [.agg #[h,i,j,k,t],.agg #[l,m,o,p,u]].toArray w (Ao (.bool s) w):=by
 unfold ZY at a;refine AA func12 z ntmps12 (Rc 2 (Ef z (AF z z) ?_));rintro _ O ⟨P,rfl,Q,R,v,b⟩;have S:=v.size;refine Ef z (AF z z) ?_;rintro _ T ⟨U,rfl,V,W,x,d⟩;have⟨r,X⟩:=Et v x;have b:=b.ext x;refine Ro 6 (Yl z (BF z De) (Yl z (CJ (us:=[h]) z Ir (AM.sub (BK.cells b) 0 1:AM _ _ _ [h]) Gh) (Yl z (BF z De) (Yl z (CJ (us:=[l]) z Ir (AM.sub (BK.cells d) 0 1:AM _ _ _ [l]) Gh) ?_))));refine Cs a r tX (fun _ g=>(vG g (by omega) (A.oj r) (F.oj r):)) ?_;rintro Y a Z L ⟨c,a0⟩;have⟨b,d⟩:=CB b d L;refine Ro 3 (Wt a c ?_);intro a;refine Rc 5 (Yl z (BF z Bl) (Yl z (CJ (us:=[i,j,k]) z DZ (AM.sub (BK.cells b) 1 3:AM _ _ _ [i,j,k]) DL) (Yl z (BF z Bl) (Yl z (CJ (us:=[m,o,p]) z DZ (AM.sub (BK.cells d) 1 3:AM _ _ _ [m,o,p]) DL) ?_))));refine Cs a c qV (fun _ g=>(wO g (by omega) (B.oj c) (C.oj c) (D.oj c) (G.oj c) (I.oj c) (J.oj c):)) ?_;rintro b0 a c0 M ⟨q,d0⟩;have⟨b,d⟩:=CB b d M;refine Ro 3 (Wt a q ?_);intro a;refine Rc 5 (Fl DO GD b (Fl DO GD d ?_));refine Cs a q tI (fun _ g=>(AaA g (by omega) (E.oj q) (K.oj q):)) ?_;rintro e0 a f0 g0 ⟨y,h0⟩;refine Ro 3 (Wt a y ?_);intro a;exact Iy a y
def KJ(a0:List Bool)(a1:List Bool)(k0:Int->Option Bool):Nat->Int->Option Bool
 |0,_=>none
 |m+1,a=>cond (decide (a<(a0.length:Int))) ((AE a0 a).bind fun c=>(AE a1 a).bind fun b=>cond (c !=b) (some false) (KJ a0 a1 k0 m (wrap .i64 (a+1)))) (k0 a)
def WM(n:Nat)(a0:List Bool)(a1:List Bool):Option Bool:=cond (((a0.length:Int)) !=((a1.length:Int))) (some false) (KJ a0 a1 (fun a=>some true) n 0)
theorem xT{g h:List Bool}{i:Bool}{j k:Value}(a:WM n g h=some i)(r:H<=w.heap.size)(l:AR BH w H g j)(o:AR BH w H h k):
 Calls prog 40 [j,k].toArray w (Ao (.bool i) w):=by
 have m:=AJ.refl w;unfold WM at a;refine AA func40 z ntmps40 (Rc 9 (Yl z (Bs z GA (l.oj m)) (Ro 1 (Yl z (Bs z GA (o.oj m)) (Ro 3 (Wt a m ?_))))));intro a;refine Rc 9 (WC.loopD (fun c f wl=>∃d:Int,Kn 26 [(0,j),(1,k),(5,.i d)] f∧AJ w wl∧KJ g h (fun d=>(some true)) c d=some i) n ?_ ?_)
 ·intro f e;exact⟨0,e.sub z,AJ.refl _,a⟩
 ·rintro c f s ⟨d,e,b,a⟩;refine By e ?_;rcases c with _|c;exact Bx a;rw [KJ.eq_2]at a;have t:=b.size;refine Rc 5 (Yl z (Bs z GA (l.oj b)) (Ro 3 (Wf a b ?_)));intro a;refine Rc 5 (BX Tryz.hm (Qr 2 (OI a (l.oj b) GA Ku Ed ?_)));rintro u a _;refine Qr 2 (OI a (o.oj b) GA Ku Ed ?_);rintro v a _;refine Qy z (Mw z sX z z) ?_;refine QL.done fun x p=>?_;have⟨q,y⟩:=Et b p;refine Re 1 (Wt a q ?_);intro a;refine Rc 9 ?_;intro f e;exact⟨c,nr,(wrap .i64 (d+1)),e.sub z,(AJ.trans b p),a⟩
def KG(n:Nat)(a0:List AV)(a1:List AV)(k0:Int->Option Bool):Nat->Int->Option Bool
 |0,_=>none
 |m+1,a=>cond (decide (a<(a0.length:Int))) ((AE a0 a).bind fun d=>(AE a1 a).bind fun b=>(RI n d b).bind fun c=>cond (!c) (some false) (KG n a0 a1 k0 m (wrap .i64 (a+1)))) (k0 a)
def Uy(n:Nat)(a0:List AV)(a1:List AV):Option Bool:=cond (((a0.length:Int)) !=((a1.length:Int))) (some false) (KG n a0 a1 (fun a=>some true) n 0)
theorem tV{g h:List AV}{i:Bool}{j k:Value}(a:Uy n g h=some i)(A:H<=w.heap.size)(l:AR C_Span w H g j)(o:AR C_Span w H h k):
 Calls prog 41 [j,k].toArray w (Ao (.bool i) w):=by
 have m:=AJ.refl w;unfold Uy at a;refine AA func41 z ntmps41 (Rc 9 (Yl z (Bs z Da (l.oj m)) (Ro 1 (Yl z (Bs z Da (o.oj m)) (Ro 3 (Wt a m ?_))))));intro a;refine Rc 9 (WC.loopD (fun c f wl=>∃d:Int,Kn 27 [(0,j),(1,k),(5,.i d)] f∧AJ w wl∧KG n g h (fun d=>(some true)) c d=some i) n ?_ ?_)
 ·intro f e;exact⟨0,e.sub z,AJ.refl _,a⟩
 ·rintro c f B ⟨d,e,b,a⟩;refine By e ?_;rcases c with _|c;exact Bx a;rw [KG.eq_2]at a;have C:=b.size;refine Rc 5 (Yl z (Bs z Da (l.oj b)) (Ro 3 (Wf a b ?_)));intro a;refine Rc 5 (BX Tryz.hm (Qr 2 (Iq a (l.oj b) Da BY ?_)));rintro p D a _ ⟨E,F,G,rfl,I,s,t⟩;obtain rfl:=Aq s;refine Qy z (CJ (us:=[.i p.Early,.i p.Late]) z FF t BY) (Qr 2 (Iq a (o.oj b) Da BY ?_));rintro q J a _ ⟨K,L,M,rfl,N,u,v⟩;obtain rfl:=Aq u;refine Qy z (CJ (us:=[.i q.Early,.i q.Late]) z FF v BY) ?_;have⟨O,x,a⟩:=AH a;refine Ql z (Iz z fK fun w' hw'=>(pX x:)) ?_;refine Qr 1 ?_;refine QL.done fun P r=>?_;have⟨y,Q⟩:=Et b r;refine Re 1 (Wt a y ?_);intro a;refine Rc 9 ?_;intro f e;exact⟨c,nr,(wrap .i64 (d+1)),e.sub z,(AJ.trans b r),a⟩
def Yn(n:Nat)(a0:Ac)(a1:Ac):Option Bool:=(WM n a0.Reached a1.Reached).bind fun b=>cond (!b) (some false) ((Uy n a0.Arrival a1.Arrival).bind fun c=>cond (!c) (some false) ((Uy n a0.Slew a1.Slew).bind fun a=>cond (!a) (some false) (some true)))
theorem AaW{e f:Ac}{j:Bool}{k l m o p q:Value}(a:Yn n e f=some j)(E:H<=w.heap.size)(u:AR BH w H e.Reached k)(v:AR C_Span w H e.Arrival l)(x:AR C_Span w H e.Slew m)(y:AR BH w H f.Reached o)(A:AR C_Span w H f.Arrival p)(B:AR C_Span w H f.Slew q):
 Calls prog 13 [.agg #[k,l,m],.agg #[o,p,q]].toArray w (Ao (.bool j) w):=by
 unfold Yn at a;refine AA func13 z ntmps13 (Rc 2 (Ef z (AF z z) ?_));rintro _ F ⟨G,rfl,I,J,r,b⟩;have K:=r.size;refine Ef z (AF z z) ?_;rintro _ L ⟨M,rfl,N,O,s,c⟩;have⟨i,P⟩:=Et r s;have b:=b.ext s;refine Ro 6 (Fl EL Gy b (Fl EL Gy c ?_));refine Cs a i rY (fun _ d=>(xT d (by omega) (u.oj i) (y.oj i):)) ?_;rintro Q a R C ⟨g,S⟩;have⟨b,c⟩:=CB b c C;refine Ro 3 (Wt a g ?_);intro a;refine Rc 5 (Fl CG CV b (Fl CG CV c ?_));refine Cs a g gJ (fun _ d=>(tV d (by omega) (v.oj g) (A.oj g):)) ?_;rintro T a U D ⟨h,V⟩;have⟨b,c⟩:=CB b c D;refine Ro 3 (Wt a h ?_);intro a;refine Rc 5 (Fl Du CV b (Fl Du CV c ?_));refine Cs a h gJ (fun _ d=>(tV d (by omega) (x.oj h) (B.oj h):)) ?_;rintro W a X Y ⟨t,Z⟩;refine Ro 3 (Wt a t ?_);intro a;exact Iy a t
def Kp(k0:Int->ByteArray->Option ByteArray):Nat->Int->ByteArray->Option ByteArray
 |0,_,_=>none
 |m+1,a,c=>cond (decide (a>0)) ((Sw ((ZD ([IntKind.wrap IntKind.u8 (wrap .i64 (48+(Int.tmod a 10)))]))) c).bind fun b=>Kp k0 m (wrap .i64 (Int.tdiv a 10)) b) (k0 a c)
def bG(n:Nat)(a0:Int):Option ByteArray:=cond (decide (a0<=0)) (some ((ByteArray.mk #[109,48]))) (Kp (fun c a=>(Sw ((ByteArray.mk #[109])) a).bind fun b=>some b) n a0 ((ByteArray.mk #[])))
theorem rP{g:Int}{h:ByteArray}(a:bG n g=some h):
 Calls prog 120 [.i g].toArray w (Ao (.string h) w):=by
 have H:=AJ.refl w;unfold bG at a;refine AA func120 z ntmps120 (Rc 12 (Wt a H ?_));intro a;have⟨l,m,a⟩:=La a;refine Rc 9 (WC.loopD (fun c e wl=>∃(b:Int) (i:ByteArray),Kn 20 [(0,.i b),(3,.string i)] e∧AJ w wl∧Kp l c b i=some h) n ?_ ?_)
 ·intro e d;exact⟨g,((ByteArray.mk #[])),d.sub z,AJ.refl _,a⟩
 ·rintro c e s ⟨b,i,d,f,a⟩;refine By d ?_;rcases c with _|c;exact Bx a;rw [Kp.eq_2]at a;have t:=f.size;refine Rc 7 (Wc z a ?_ ?_)
  ·intro a;refine Rc 8 (Yl z (Hb z iP ud5 z) (Ef z (BM (AL .u8) ([IntKind.wrap IntKind.u8 (wrap .i64 (48+(Int.tmod b 10)))]) [[.int .u8 (IntKind.wrap IntKind.u8 (wrap .i64 (48+(Int.tmod b 10))))]] z fC vJ z z ⟨z,trivial⟩) ?_));rintro u v ⟨x,j,y,A,k,o⟩;have⟨B,C⟩:=Et f k;have D:=BT j;clear j;refine Yl z (Uw z fC ud5 Ri z (AB.slf o nr nr)) (Ro 1 ?_);have⟨p,q,a⟩:=AH a;refine Yl z (TW z z z q) (Ro 10 ?_);intro e d;exact⟨c,nr,(wrap .i64 (Int.tdiv b 10)),p,d.sub z,(AJ.trans f k),a⟩
  ·intro a;refine Rc 3 ?_
   subst m
   refine Re 5 ?_;have⟨E,r,a⟩:=AH a;exact Yl z (TW z z z r) (DW a f)
def Ih(n:Nat)(a0:List BD)(k0:Int->Int->Option Int):Nat->Int->Int->Option Int
 |0,_,_=>none
 |m+1,b,a=>cond (decide (a<(a0.length:Int))) ((bG n b).bind fun g=>(AE a0 a).bind fun d=>(AE a0 a).bind fun e=>(AE a0 a).bind fun c=>(AE a0 a).bind fun f=>Ih n a0 k0 m (wrap .i64 ((wrap .i64 ((wrap .i64 ((wrap .i64 (b+1))+1))+1))+1)) (wrap .i64 (a+1))) (k0 b a)
def Xd(n:Nat)(a0:List BD)(a1:Int):Option Int:=Ih n a0 (fun a b=>some a) n a1 0
theorem xJ{e:List BD}{k l:Int}{lo hi:Nat}{f:Value}(hF:Xd n e k=some l)(hlh:hi<=w.heap.size)(y:AD C_PinS w (Iv lo hi) e f):
 Calls prog 121 [f,.i k].toArray w (DA fun A B=>A= .i l∧DG (Iv lo hi) w B):=by
 have C:DG (Iv lo hi) w w:=DG.refl _ w;unfold Xd at hF;refine AA func121 z ntmps121 (Rc 12 (WC.loopD (fun c g wl=>∃b d:Int,Kn 44 [(0,f),(1,.i b),(5,.i d)] g∧DG (Iv lo hi) w wl∧w.heap.size<=wl.heap.size∧AD C_PinS wl (Iv lo hi) e f∧Ih n e (fun b d=>(some b)) c b d=some l) n ?_ ?_))
 ·intro g hK;exact⟨k,0,hK.sub z,C,nr,y,hF⟩
 ·rintro c g W ⟨b,d,hK,m,X,a,hF⟩;refine By hK ?_;rcases c with _|c;exact Bx hF;rw [Ih.eq_2]at hF;refine Rc 5 (Yl z (Bs z CU a) (Ro 3 (Wf hF m ?_)));intro hF;refine Rc 9 (Cg hF NK (fun _ D=>(rP D:)) ?_);rintro Y hF _ Z ⟨rfl,o⟩;have⟨E,a0⟩:=fD m o;have a:=a.old o (by omega);have⟨b0,F,hF⟩:=AH hF;refine Ye z (EJ z CU Bt a F) ?_;rintro _ ⟨p,c0,d0,rfl,h,G,I⟩;have h:lo<=p∧p<hi:=⟨h.1,by have:=h.2;omega⟩;obtain⟨e0,f0,g0,h0,rfl⟩:=Gc G;refine Yl z (BF z Fj) (Ef z (CK 0 z I z z (.str _ _) GW z z) ?_);rintro _ i0 q;have⟨J,j0⟩:=Hp E q (Dc (Or.inl h));have a:=AD.sim a q;have⟨k0,K,hF⟩:=AH hF;refine Ro 14 (Ye z (EJ z CU Bt a K) ?_);rintro _ ⟨r,l0,m0,rfl,i,L,M⟩;have i:lo<=r∧r<hi:=⟨i.1,by have:=i.2;omega⟩;obtain⟨n0,o0,p0,q0,rfl⟩:=Gc L;refine Yl z (BF z Fh) (Ef z (CK 1 z M z z (.int _ _ _) Ap z z) ?_);rintro _ r0 s;have⟨N,s0⟩:=Hp J s (Dc (Or.inl i));have a:=AD.sim a s;have⟨t0,O,hF⟩:=AH hF;refine Ro 14 (Ye z (EJ z CU Bt a O) ?_);rintro _ ⟨t,u0,v0,rfl,H,P,Q⟩;have H:lo<=t∧t<hi:=⟨H.1,by have:=H.2;omega⟩;obtain⟨w0,x0,y0,z0,rfl⟩:=Gc P;refine Yl z (BF z Es) (Ef z (CK 2 z Q z z (.int _ _ _) Ap z z) ?_);rintro _ A0 u;have⟨R,B0⟩:=Hp N u (Dc (Or.inl H));have a:=AD.sim a u;have⟨C0,S,hF⟩:=AH hF;refine Ro 16 (Ye z (EJ z CU Bt a S) ?_);rintro _ ⟨v,D0,E0,rfl,j,T,U⟩;have j:lo<=v∧v<hi:=⟨j.1,by have:=j.2;omega⟩;obtain⟨F0,G0,H0,I0,rfl⟩:=Gc T;refine Yl z (BF z CX) (Ef z (CK 3 z U z z (.bool _ _) Ku z z) ?_);rintro _ J0 x;have⟨V,K0⟩:=Hp R x (Dc (Or.inl j));have a:=AD.sim a x;refine Ro 15 ?_;intro g hK;exact⟨c,nr,(wrap .i64 ((wrap .i64 ((wrap .i64 ((wrap .i64 (b+1))+1))+1))+1)),(wrap .i64 (d+1)),hK.sub z,V,(by omega),a,hF⟩
def LF(a0:List Int)(k0:Int->Int->Option Int):Nat->Int->Int->Option Int
 |0,_,_=>none
 |m+1,b,a=>cond (decide (a<(a0.length:Int))) ((AE a0 a).bind fun c=>LF a0 k0 m (wrap .i64 (b+1)) (wrap .i64 (a+1))) (k0 b a)
def UN(n:Nat)(a0:List Int)(a1:Int):Option Int:=LF a0 (fun a b=>some a) n a1 0
theorem eD{g:List Int}{H k:Int}{lo hi:Nat}{h:Value}(a:UN n g H=some k)(hlh:hi<=w.heap.size)(p:AD (CE .i64) w (Iv lo hi) g h):
 Calls prog 87 [h,.i H].toArray w (DA fun q r=>q= .i k∧DG (Iv lo hi) w r):=by
 have s:DG (Iv lo hi) w w:=DG.refl _ w;unfold UN at a;refine AA func87 z ntmps87 (Rc 12 (WC.loopD (fun c i wl=>∃b d:Int,Kn 19 [(0,h),(1,.i b),(5,.i d)] i∧DG (Iv lo hi) w wl∧w.heap.size<=wl.heap.size∧AD (CE .i64) wl (Iv lo hi) g h∧LF g (fun b d=>(some b)) c b d=some k) n ?_ ?_))
 ·intro i e;exact⟨H,0,e.sub z,s,nr,p,a⟩
 ·rintro c i x ⟨b,d,e,l,y,f,a⟩;refine By e ?_;rcases c with _|c;exact Bx a;rw [LF.eq_2]at a;refine Rc 5 (Yl z (Bs z Af f) (Ro 3 (Wf a l ?_)));intro a;have⟨A,t,a⟩:=AH a;refine Rc 9 (Ye z (EJ z Af Ap f t) ?_);rintro _ ⟨m,B,_,rfl,j,⟨C,rfl⟩,u⟩;have j:lo<=m∧m<hi:=⟨j.1,by have:=j.2;omega⟩;refine Ef z (CK 0 z u z z (.int _ _ _) Ap z z) ?_;rintro _ D o;have⟨v,E⟩:=Hp l o (Dc (Or.inl j));have f:=AD.sim f o;refine Ro 15 ?_;intro i e;exact⟨c,nr,(wrap .i64 (b+1)),(wrap .i64 (d+1)),e.sub z,v,(by omega),f,a⟩
def IM(n:Nat)(a0:List AS)(k0:Int->Int->Option Int):Nat->Int->Int->Option Int
 |0,_,_=>none
 |m+1,g,a=>cond (decide (a<(a0.length:Int))) ((AE a0 a).bind fun h=>(UN n h.Slews g).bind fun c=>(AE a0 a).bind fun e=>(UN n e.Loads c).bind fun d=>(AE a0 a).bind fun b=>(UN n b.Values d).bind fun f=>IM n a0 k0 m f (wrap .i64 (a+1))) (k0 g a)
def UO(n:Nat)(a0:List AS)(a1:Int):Option Int:=IM n a0 (fun a b=>some a) n a1 0
theorem oQ{f:List AS}{i j:Int}{lo hi:Nat}{g:Value}(hF:UO n f i=some j)(hlh:hi<=w.heap.size)(p:AD C_TableS w (Iv lo hi) f g):
 Calls prog 151 [g,.i i].toArray w (DA fun q r=>q= .i j∧DG (Iv lo hi) w r):=by
 have s:DG (Iv lo hi) w w:=DG.refl _ w;unfold UO at hF;refine AA func151 z ntmps151 (Rc 12 (WC.loopD (fun b h wl=>∃c d:Int,Kn 34 [(0,g),(1,.i c),(5,.i d)] h∧DG (Iv lo hi) w wl∧w.heap.size<=wl.heap.size∧AD C_TableS wl (Iv lo hi) f g∧IM n f (fun c d=>(some c)) b c d=some j) n ?_ ?_))
 ·intro h hK;exact⟨i,0,hK.sub z,s,nr,p,hF⟩
 ·rintro b h P ⟨c,d,hK,H,Q,a,hF⟩;refine By hK ?_;rcases b with _|b;exact Bx hF;rw [IM.eq_2]at hF;refine Rc 5 (Yl z (Bs z GK a) (Ro 3 (Wf hF H ?_)));intro hF;have⟨R,t,hF⟩:=AH hF;refine Rc 8 (Ye z (EJ z GK Cy a t) ?_);rintro _ ⟨S,T,U,rfl,V,u,v⟩;obtain⟨W,X,Y,rfl,x,Z,a0⟩:=HJ u;refine Fc EQ Ad v (Ro 1 ?_);have⟨b0,y,hF⟩:=AH hF;refine Ef z (FW z Lv (eD y (by omega) x:)) ?_;rintro _ c0 ⟨rfl,k⟩;have⟨A,d0⟩:=Hp H k (fun l e=>Or.inl e);have a:=AD.sim a k;have⟨e0,B,hF⟩:=AH hF;refine Ro 7 (Ye z (EJ z GK Cy a B) ?_);rintro _ ⟨f0,g0,h0,rfl,i0,C,D⟩;obtain⟨j0,k0,l0,rfl,m0,E,n0⟩:=HJ C;refine Fc Dk Ad D (Ro 1 ?_);have⟨o0,F,hF⟩:=AH hF;refine Ef z (FW z Lv (eD F (by omega) E:)) ?_;rintro _ p0 ⟨rfl,m⟩;have⟨G,q0⟩:=Hp A m (fun l e=>Or.inl e);have a:=AD.sim a m;have⟨r0,I,hF⟩:=AH hF;refine Ro 6 (Ye z (EJ z GK Cy a I) ?_);rintro _ ⟨s0,t0,u0,rfl,v0,J,K⟩;obtain⟨w0,x0,y0,rfl,z0,A0,L⟩:=HJ J;refine Fc CF Ad K (Ro 1 ?_);have⟨M,N,hF⟩:=AH hF;refine Ef z (FW z Lv (eD N (by omega) L:)) ?_;rintro _ B0 ⟨rfl,o⟩;have⟨O,C0⟩:=Hp G o (fun l e=>Or.inl e);have a:=AD.sim a o;refine Ro 10 ?_;intro h hK;exact⟨b,nr,M,(wrap .i64 (d+1)),hK.sub z,O,(by omega),a,hF⟩
def IE(n:Nat)(a0:List Ah)(k0:Int->Int->Option Int):Nat->Int->Int->Option Int
 |0,_,_=>none
 |m+1,f,a=>cond (decide (a<(a0.length:Int))) ((AE a0 a).bind fun j=>(AE a0 a).bind fun i=>(AE a0 a).bind fun g=>(AE a0 a).bind fun h=>(AE a0 a).bind fun e=>(UO n e.Delay (wrap .i64 ((wrap .i64 ((wrap .i64 ((wrap .i64 (f+1))+1))+1))+1))).bind fun d=>(AE a0 a).bind fun b=>(UO n b.Slew d).bind fun c=>IE n a0 k0 m c (wrap .i64 (a+1))) (k0 f a)
def XR(n:Nat)(a0:List Ah)(a1:Int):Option Int:=IE n a0 (fun a b=>some a) n a1 0
theorem zT{e:List Ah}{k l:Int}{lo hi:Nat}{f:Value}(hF:XR n e k=some l)(hlh:hi<=w.heap.size)(B:AD C_ArcS w (Iv lo hi) e f):
 Calls prog 122 [f,.i k].toArray w (DA fun C D=>C= .i l∧DG (Iv lo hi) w D):=by
 have E:DG (Iv lo hi) w w:=DG.refl _ w;unfold XR at hF;refine AA func122 z ntmps122 (Rc 12 (WC.loopD (fun b g wl=>∃c d:Int,Kn 55 [(0,f),(1,.i c),(5,.i d)] g∧DG (Iv lo hi) w wl∧w.heap.size<=wl.heap.size∧AD C_ArcS wl (Iv lo hi) e f∧IE n e (fun c d=>(some c)) b c d=some l) n ?_ ?_))
 ·intro g hK;exact⟨k,0,hK.sub z,E,nr,B,hF⟩
 ·rintro b g k0 ⟨c,d,hK,o,l0,a,hF⟩;refine By hK ?_;rcases b with _|b;exact Bx hF;rw [IE.eq_2]at hF;refine Rc 5 (Yl z (Bs z Bj a) (Ro 3 (Wf hF o ?_)));intro hF;have⟨m0,F,hF⟩:=AH hF;refine Rc 9 (Ye z (EJ z Bj BL a F) ?_);rintro _ ⟨p,n0,o0,rfl,h,G,I⟩;have h:lo<=p∧p<hi:=⟨h.1,by have:=h.2;omega⟩;obtain⟨p0,q0,r0,s0,t0,u0,rfl,v0,w0⟩:=Eb G;refine Yl z (BF z Bo) (Ef z (CK 0 z I z z (.int _ _ _) Ap z z) ?_);rintro _ x0 q;have⟨J,y0⟩:=Hp o q (Dc (Or.inl h));have a:=AD.sim a q;have⟨z0,K,hF⟩:=AH hF;refine Ro 14 (Ye z (EJ z Bj BL a K) ?_);rintro _ ⟨r,A0,B0,rfl,i,L,M⟩;have i:lo<=r∧r<hi:=⟨i.1,by have:=i.2;omega⟩;obtain⟨C0,D0,E0,F0,G0,H0,rfl,I0,J0⟩:=Eb L;refine Yl z (BF z Cb) (Ef z (CK 1 z M z z (.int _ _ _) Ap z z) ?_);rintro _ K0 s;have⟨N,L0⟩:=Hp J s (Dc (Or.inl i));have a:=AD.sim a s;have⟨M0,O,hF⟩:=AH hF;refine Ro 14 (Ye z (EJ z Bj BL a O) ?_);rintro _ ⟨t,N0,O0,rfl,H,P,Q⟩;have H:lo<=t∧t<hi:=⟨H.1,by have:=H.2;omega⟩;obtain⟨P0,Q0,R0,S0,T0,U0,rfl,V0,W0⟩:=Eb P;refine Yl z (BF z Bv) (Ef z (CK 2 z Q z z (.int _ _ _) Ap z z) ?_);rintro _ X0 u;have⟨R,Y0⟩:=Hp N u (Dc (Or.inl H));have a:=AD.sim a u;have⟨Z0,S,hF⟩:=AH hF;refine Ro 14 (Ye z (EJ z Bj BL a S) ?_);rintro _ ⟨v,a1,b1,rfl,j,T,U⟩;have j:lo<=v∧v<hi:=⟨j.1,by have:=j.2;omega⟩;obtain⟨c1,d1,e1,f1,g1,h1,rfl,i1,j1⟩:=Eb T;refine Yl z (BF z DF) (Ef z (CK 3 z U z z (.int _ _ _) Ap z z) ?_);rintro _ k1 x;have⟨V,l1⟩:=Hp R x (Dc (Or.inl j));have a:=AD.sim a x;have⟨m1,W,hF⟩:=AH hF;refine Ro 13 (Ye z (EJ z Bj BL a W) ?_);rintro _ ⟨n1,o1,p1,rfl,q1,X,Y⟩;obtain⟨r1,s1,t1,u1,v1,w1,rfl,Z,x1⟩:=Eb X;refine Fc Db DX Y (Ro 1 ?_);have⟨y1,a0,hF⟩:=AH hF;refine Ef z (FW z ZH (oQ a0 (by omega) Z:)) ?_;rintro _ z1 ⟨rfl,y⟩;have⟨b0,A1⟩:=Hp V y (fun c0 m=>Or.inl m);have a:=AD.sim a y;have⟨B1,d0,hF⟩:=AH hF;refine Ro 6 (Ye z (EJ z Bj BL a d0) ?_);rintro _ ⟨C1,D1,E1,rfl,F1,e0,f0⟩;obtain⟨G1,H1,I1,J1,K1,L1,rfl,M1,g0⟩:=Eb e0;refine Fc EN DX f0 (Ro 1 ?_);have⟨h0,i0,hF⟩:=AH hF;refine Ef z (FW z ZH (oQ i0 (by omega) g0:)) ?_;rintro _ N1 ⟨rfl,A⟩;have⟨j0,O1⟩:=Hp b0 A (fun c0 m=>Or.inl m);have a:=AD.sim a A;refine Ro 10 ?_;intro g hK;exact⟨b,nr,h0,(wrap .i64 (d+1)),hK.sub z,j0,(by omega),a,hF⟩
def Hw(n:Nat)(a0:List AX)(k0:Int->Int->Option Int):Nat->Int->Int->Option Int
 |0,_,_=>none
 |m+1,f,a=>cond (decide (a<(a0.length:Int))) ((bG n f).bind fun o=>(AE a0 a).bind fun k=>(AE a0 a).bind fun l=>(AE a0 a).bind fun g=>(Xd n g.Pins (wrap .i64 ((wrap .i64 (f+1))+1))).bind fun e=>(AE a0 a).bind fun h=>(XR n h.Arcs e).bind fun d=>(AE a0 a).bind fun b=>(UN n b.Truth d).bind fun c=>(AE a0 a).bind fun i=>(AE a0 a).bind fun j=>Hw n a0 k0 m (wrap .i64 ((wrap .i64 (c+1))+1)) (wrap .i64 (a+1))) (k0 f a)
def Xj(n:Nat)(a0:List AX)(a1:Int):Option Int:=Hw n a0 (fun a b=>some a) n a1 0
theorem zN{f:List AX}{l m:Int}{lo hi:Nat}{g:Value}(hF:Xj n f l=some m)(hlh:hi<=w.heap.size)(E:AD C_CellS w (Iv lo hi) f g):
 Calls prog 83 [g,.i l].toArray w (DA fun F G=>F= .i m∧DG (Iv lo hi) w G):=by
 have I:DG (Iv lo hi) w w:=DG.refl _ w;unfold Xj at hF;refine AA func83 z ntmps83 (Rc 12 (WC.loopD (fun c h wl=>∃d e:Int,Kn 63 [(0,g),(1,.i d),(5,.i e)] h∧DG (Iv lo hi) w wl∧w.heap.size<=wl.heap.size∧AD C_CellS wl (Iv lo hi) f g∧Hw n f (fun d e=>(some d)) c d e=some m) n ?_ ?_))
 ·intro h hK;exact⟨l,0,hK.sub z,I,nr,E,hF⟩
 ·rintro c h t0 ⟨d,e,hK,o,u0,a,hF⟩;refine By hK ?_;rcases c with _|c;exact Bx hF;rw [Hw.eq_2]at hF;refine Rc 5 (Yl z (Bs z EA a) (Ro 3 (Wf hF o ?_)));intro hF;refine Rc 9 (Cg hF NK (fun _ b=>(rP b:)) ?_);rintro v0 hF _ w0 ⟨rfl,p⟩;have⟨J,x0⟩:=fD o p;have a:=a.old p (by omega);have⟨y0,K,hF⟩:=AH hF;refine Ye z (EJ z EA BA a K) ?_;rintro _ ⟨q,z0,A0,rfl,H,L,M⟩;have H:lo<=q∧q<hi:=⟨H.1,by have:=H.2;omega⟩;obtain⟨B0,C0,D0,E0,F0,G0,H0,rfl,I0,J0,K0⟩:=Dd L;refine Yl z (BF z Eh) (Ef z (CK 0 z M z z (.str _ _) GW z z) ?_);rintro _ L0 r;have⟨N,M0⟩:=Hp J r (Dc (Or.inl H));have a:=AD.sim a r;have⟨N0,O,hF⟩:=AH hF;refine Ro 14 (Ye z (EJ z EA BA a O) ?_);rintro _ ⟨s,O0,P0,rfl,i,P,Q⟩;have i:lo<=s∧s<hi:=⟨i.1,by have:=i.2;omega⟩;obtain⟨Q0,R0,S0,T0,U0,V0,W0,rfl,X0,Y0,Z0⟩:=Dd P;refine Yl z (BF z Ek) (Ef z (CK 1 z Q z z (.int _ _ _) Ap z z) ?_);rintro _ a1 t;have⟨R,b1⟩:=Hp N t (Dc (Or.inl i));have a:=AD.sim a t;have⟨c1,S,hF⟩:=AH hF;refine Ro 13 (Ye z (EJ z EA BA a S) ?_);rintro _ ⟨d1,e1,f1,rfl,g1,T,U⟩;obtain⟨h1,i1,j1,k1,l1,m1,n1,rfl,V,o1,p1⟩:=Dd T;refine Fc Bk Cr U (Ro 1 ?_);have⟨q1,W,hF⟩:=AH hF;refine Ef z (FW z mM (xJ W (by omega) V:)) ?_;rintro _ r1 ⟨rfl,u⟩;have⟨X,s1⟩:=Hp R u (fun v b=>Or.inl b);have a:=AD.sim a u;have⟨t1,Y,hF⟩:=AH hF;refine Ro 7 (Ye z (EJ z EA BA a Y) ?_);rintro _ ⟨u1,v1,w1,rfl,x1,Z,a0⟩;obtain⟨y1,z1,A1,B1,C1,D1,E1,rfl,F1,b0,G1⟩:=Dd Z;refine Fc Be Cd a0 (Ro 1 ?_);have⟨H1,c0,hF⟩:=AH hF;refine Ef z (FW z kX (zT c0 (by omega) b0:)) ?_;rintro _ I1 ⟨rfl,x⟩;have⟨d0,J1⟩:=Hp X x (fun v b=>Or.inl b);have a:=AD.sim a x;have⟨K1,e0,hF⟩:=AH hF;refine Ro 7 (Ye z (EJ z EA BA a e0) ?_);rintro _ ⟨L1,M1,N1,rfl,O1,f0,g0⟩;obtain⟨P1,Q1,R1,S1,T1,U1,V1,rfl,W1,X1,h0⟩:=Dd f0;refine Fc DS Ad g0 (Ro 1 ?_);have⟨i0,j0,hF⟩:=AH hF;refine Ef z (FW z Lv (eD j0 (by omega) h0:)) ?_;rintro _ Y1 ⟨rfl,y⟩;have⟨k0,Z1⟩:=Hp d0 y (fun v b=>Or.inl b);have a:=AD.sim a y;have⟨a2,l0,hF⟩:=AH hF;refine Ro 8 (Ye z (EJ z EA BA a l0) ?_);rintro _ ⟨A,b2,c2,rfl,j,m0,n0⟩;have j:lo<=A∧A<hi:=⟨j.1,by have:=j.2;omega⟩;obtain⟨d2,e2,f2,g2,h2,i2,j2,rfl,k2,l2,m2⟩:=Dd m0;refine Yl z (BF z Ha) (Ef z (CK 5 z n0 z z (.int _ _ _) Ap z z) ?_);rintro _ n2 B;have⟨o0,o2⟩:=Hp k0 B (Dc (Or.inl j));have a:=AD.sim a B;have⟨p2,p0,hF⟩:=AH hF;refine Ro 14 (Ye z (EJ z EA BA a p0) ?_);rintro _ ⟨C,q2,r2,rfl,k,q0,r0⟩;have k:lo<=C∧C<hi:=⟨k.1,by have:=k.2;omega⟩;obtain⟨s2,t2,u2,v2,w2,x2,y2,rfl,z2,A2,B2⟩:=Dd q0;refine Yl z (BF z Hd) (Ef z (CK 6 z r0 z z (.int _ _ _) Ap z z) ?_);rintro _ C2 D;have⟨s0,D2⟩:=Hp o0 D (Dc (Or.inl k));have a:=AD.sim a D;refine Ro 15 ?_;intro h hK;exact⟨c,nr,(wrap .i64 ((wrap .i64 (i0+1))+1)),(wrap .i64 (e+1)),hK.sub z,s0,(by omega),a,hF⟩
def Ho(n:Nat)(a0:List AO)(k0:Int->Int->Option Int):Nat->Int->Int->Option Int
 |0,_,_=>none
 |m+1,c,a=>cond (decide (a<(a0.length:Int))) ((bG n c).bind fun g=>(AE a0 a).bind fun e=>(AE a0 a).bind fun f=>(AE a0 a).bind fun b=>(UN n b.Nets (wrap .i64 ((wrap .i64 (c+1))+1))).bind fun d=>Ho n a0 k0 m d (wrap .i64 (a+1))) (k0 c a)
def XK(n:Nat)(a0:List AO)(a1:Int):Option Int:=Ho n a0 (fun a b=>some a) n a1 0
theorem wU{e:List AO}{i j:Int}{lo hi:Nat}{H:Value}(hF:XK n e i=some j)(hlh:hi<=w.heap.size)(t:AD C_InstanceS w (Iv lo hi) e H):
 Calls prog 84 [H,.i i].toArray w (DA fun u v=>u= .i j∧DG (Iv lo hi) w v):=by
 have x:DG (Iv lo hi) w w:=DG.refl _ w;unfold XK at hF;refine AA func84 z ntmps84 (Rc 12 (WC.loopD (fun b f wl=>∃c d:Int,Kn 35 [(0,H),(1,.i c),(5,.i d)] f∧DG (Iv lo hi) w wl∧w.heap.size<=wl.heap.size∧AD C_InstanceS wl (Iv lo hi) e H∧Ho n e (fun c d=>(some c)) b c d=some j) n ?_ ?_))
 ·intro f hK;exact⟨i,0,hK.sub z,x,nr,t,hF⟩
 ·rintro b f Q ⟨c,d,hK,l,R,a,hF⟩;refine By hK ?_;rcases b with _|b;exact Bx hF;rw [Ho.eq_2]at hF;refine Rc 5 (Yl z (Bs z DV a) (Ro 3 (Wf hF l ?_)));intro hF;refine Rc 9 (Cg hF NK (fun _ k=>(rP k:)) ?_);rintro S hF _ T ⟨rfl,m⟩;have⟨y,U⟩:=fD l m;have a:=a.old m (by omega);have⟨V,A,hF⟩:=AH hF;refine Ye z (EJ z DV Ba a A) ?_;rintro _ ⟨o,W,X,rfl,g,B,C⟩;have g:lo<=o∧o<hi:=⟨g.1,by have:=g.2;omega⟩;obtain⟨Y,Z,a0,rfl,b0⟩:=FI B;refine Yl z (BF z HS) (Ef z (CK 0 z C z z (.str _ _) GW z z) ?_);rintro _ c0 p;have⟨D,d0⟩:=Hp y p (Dc (Or.inl g));have a:=AD.sim a p;have⟨e0,E,hF⟩:=AH hF;refine Ro 14 (Ye z (EJ z DV Ba a E) ?_);rintro _ ⟨q,f0,g0,rfl,h,F,G⟩;have h:lo<=q∧q<hi:=⟨h.1,by have:=h.2;omega⟩;obtain⟨h0,i0,j0,rfl,k0⟩:=FI F;refine Yl z (BF z CY) (Ef z (CK 1 z G z z (.int _ _ _) Ap z z) ?_);rintro _ l0 r;have⟨I,m0⟩:=Hp D r (Dc (Or.inl h));have a:=AD.sim a r;have⟨n0,J,hF⟩:=AH hF;refine Ro 12 (Ye z (EJ z DV Ba a J) ?_);rintro _ ⟨o0,p0,q0,rfl,r0,K,L⟩;obtain⟨s0,t0,u0,rfl,M⟩:=FI K;refine Fc Cf Ad L (Ro 1 ?_);have⟨N,O,hF⟩:=AH hF;refine Ef z (FW z Lv (eD O (by omega) M:)) ?_;rintro _ v0 ⟨rfl,s⟩;have⟨P,w0⟩:=Hp I s (fun x0 k=>Or.inl k);have a:=AD.sim a s;refine Ro 10 ?_;intro f hK;exact⟨b,nr,N,(wrap .i64 (d+1)),hK.sub z,P,(by omega),a,hF⟩
def YR(n:Nat)(a0:Ab)(a1:Int):Option Int:=(Xj n a0.Cells a1).bind fun a=>some a
theorem vL{c:Ab}{d e:Int}{lo hi:Nat}{f:Value}(b:YR n c d=some e)(hlh:hi<=w.heap.size)(a:AD C_CellS w (Iv lo hi) c.Cells f):
 Calls prog 42 [.agg #[f],.i d].toArray w (DA fun i j=>i= .i e∧DG (Iv lo hi) w j):=by
 have k:DG (Iv lo hi) w w:=DG.refl _ w;unfold YR at b;refine AA func42 z ntmps42 (Rc 2 (Ef z (AF z z) ?_));rintro _ r ⟨H,rfl,s,t,g,l⟩;have⟨m,u⟩:=fD k g;have a:=a.old g (by omega);refine Ro 5 (Fl CH ED l (Ro 1 ?_));have⟨v,o,b⟩:=AH b;refine Ef z (FW z rI (zN o (by omega) a:)) ?_;rintro _ x ⟨rfl,h⟩;have⟨p,y⟩:=Hp m h (fun A q=>Or.inl q);have a:=AD.sim a h;exact DW b p
def Hn(k0:Int->Int->(List Bool)->Option (Int×(List Bool))):Nat->Int->Int->(List Bool)->Option (Int×(List Bool))
 |0,_,_,_=>none
 |m+1,c,a,b=>cond (decide (a<(b.length:Int))) ((AE b a).bind fun d=>Hn k0 m (wrap .i64 (c+1)) (wrap .i64 (a+1)) ((b.set (a).toNat (((Int.tmod c 3)==0))))) (k0 c a b)
def Wk(n:Nat)(a0:List Bool)(a1:Int):Option (Int×(List Bool)):=Hn (fun c b a=>some (c,a)) n a1 0 a0
theorem vV{k:List Bool}{H:Int}{h:Int×(List Bool)}{c:Value}{l:Nat}(a:Wk n k H=some h)(m:AB BH w l (Iv 0 0) 4 k c):
 Calls prog 45 [c,.i H].toArray w (DA fun s o=>s= .i h.1∧AB BH o l (Iv 0 0) 4 h.2 c∧CS (pO c) w o):=by
 have t:CS (pO c) w w:=CS.refl _ w;have E:=AB.blk m;unfold Wk at a;refine AA func45 z ntmps45 (Rc 12 (WC.loopD (fun f i wl=>∃(b d:Int) (e:List Bool),Kn 21 [(0,c),(1,.i b),(5,.i d)] i∧CS (pO c) w wl∧w.heap.size<=wl.heap.size∧AB BH wl (l) (Iv 0 0) 4 e c∧Hn (fun b d e=>(some (b,e))) f b d e=some h) n ?_ ?_))
 ·intro i g;exact⟨H,0,k,g.sub z,t,nr,m,a⟩
 ·rintro f i F ⟨b,d,e,g,p,G,j,a⟩;refine By g ?_;rcases f with _|f;exact Bx a;rw [Hn.eq_2]at a;refine Rc 5 (Yl z (Mg z GA j) (Ro 3 (Wc z a ?_ ?_)))
  ·intro a;refine Rc 11 (Io a j GA Ku ?_);rintro I u a _ ⟨J,K,rfl,q,r,v⟩;have x:=r;obtain rfl:=r;refine Ef z (Ag (c:=BH) (us':=[.bool (((Int.tmod b 3)==0))]) (y':=((Int.tmod b 3)==0)) 0 _ z z z j q u z Ku z x v z z z (fun y A=>absurd A.2 (Nat.not_lt_zero y))) ?_;rintro _ L ⟨B,C⟩;have⟨D,M⟩:=oG p B (Or.inl q);refine Ro 15 ?_;intro i g;exact⟨f,nr,(wrap .i64 (b+1)),(wrap .i64 (d+1)),((e.set (d).toNat (((Int.tmod b 3)==0)))),g.sub z,D,(by omega),C,a⟩
  ·intro a;cases BQ a;exact Rc 12 (Ne z z ⟨_,z,z,j,p⟩)
def Hh(k0:Int->Int->(List AV)->Option (Int×(List AV))):Nat->Int->Int->(List AV)->Option (Int×(List AV))
 |0,_,_,_=>none
 |m+1,c,a,b=>cond (decide (a<(b.length:Int))) ((AE b a).bind fun d=>(AE ((b.set (a).toNat ((AV.mk c d.Late)))) a).bind fun e=>Hh k0 m (wrap .i64 ((wrap .i64 (c+1))+1)) (wrap .i64 (a+1)) ((((b.set (a).toNat ((AV.mk c d.Late)))).set (a).toNat ((AV.mk e.Early (wrap .i64 (c+1))))))) (k0 c a b)
def UQ(n:Nat)(a0:List AV)(a1:Int):Option (Int×(List AV)):=Hh (fun c b a=>some (c,a)) n a1 0 a0
theorem pD{k:List AV}{H:Int}{h:Int×(List AV)}{c:Value}{l:Nat}(a:UQ n k H=some h)(r:AB C_Span w l (Iv 0 0) 78 k c):
 Calls prog 46 [c,.i H].toArray w (DA fun B s=>B= .i h.1∧AB C_Span s l (Iv 0 0) 78 h.2 c∧CS (pO c) w s):=by
 have C:CS (pO c) w w:=CS.refl _ w;have P:=AB.blk r;unfold UQ at a;refine AA func46 z ntmps46 (Rc 12 (WC.loopD (fun f i wl=>∃(b d:Int) (e:List AV),Kn 27 [(0,c),(1,.i b),(5,.i d)] i∧CS (pO c) w wl∧w.heap.size<=wl.heap.size∧AB C_Span wl (l) (Iv 0 0) 78 e c∧Hh (fun b d e=>(some (b,e))) f b d e=some h) n ?_ ?_))
 ·intro i g;exact⟨H,0,k,g.sub z,C,nr,r,a⟩
 ·rintro f i Q ⟨b,d,e,g,t,R,j,a⟩;refine By g ?_;rcases f with _|f;exact Bx a;rw [Hh.eq_2]at a;refine Rc 5 (Yl z (Mg z Da j) (Ro 3 (Wc z a ?_ ?_)))
  ·intro a;refine Rc 9 (Io a j Da BY ?_);rintro m D a _ ⟨S,T,rfl,u,v,E⟩;have F:=v;obtain rfl:=Aq v;refine Yl z (BF z Bb) ?_;refine Ef z (Ag (c:=C_Span) (us':=[.i b,.i m.Late]) (y':=(AV.mk b m.Late)) 0 _ z z z j u D z Ap z F E z z KH (fun o p=>absurd p.2 (Nat.not_lt_zero o))) ?_;rintro _ U ⟨G,x⟩;have⟨I,V⟩:=oG t G (Or.inl u);refine Ro 14 (Io a x Da BY ?_);rintro q J a _ ⟨W,X,rfl,y,A,K⟩;have L:=A;obtain rfl:=Aq A;refine Yl z (BF z BW) ?_;refine Ef z (Ag (c:=C_Span) (us':=[.i q.Early,.i (wrap .i64 (b+1))]) (y':=(AV.mk q.Early (wrap .i64 (b+1)))) 1 _ z z z x y J z Ap z L K z z KH (fun o p=>absurd p.2 (Nat.not_lt_zero o))) ?_;rintro _ Y ⟨M,N⟩;have⟨O,Z⟩:=oG I M (Or.inl y);refine Ro 15 ?_;intro i g;exact⟨f,nr,(wrap .i64 ((wrap .i64 (b+1))+1)),(wrap .i64 (d+1)),((((e.set (d).toNat ((AV.mk b m.Late)))).set (d).toNat ((AV.mk q.Early (wrap .i64 (b+1)))))),g.sub z,O,(by omega),N,a⟩
  ·intro a;cases BQ a;exact Rc 12 (Ne z z ⟨_,z,z,j,t⟩)
def Ww(n:Nat)(a0:Ac)(a1:Int):Option (Int×(List Bool)×(List AV)×(List AV)):=(Wk n a0.Reached a1).bind fun b=>(UQ n a0.Arrival b.1).bind fun c=>(UQ n a0.Slew c.1).bind fun a=>some (a.1,b.2,c.2,a.2)
theorem yQ{m:Ac}{s:Int}{i:Int×(List Bool)×(List AV)×(List AV)}{a:Value}{t:Nat}{b:Value}{u:Nat}{c:Value}{v:Nat}(hF:Ww n m s=some i)(o:AB BH w t (Iv 0 0) 4 m.Reached a)(h:AB C_Span w u (Iv 0 0) 78 m.Arrival b)(f:AB C_Span w v (Iv 0 0) 78 m.Slew c)(x:No b a)(y:No c a)(A:No c b):
 Calls prog 15 [.agg #[a,b,c],.i s].toArray w (DA fun C p=>C= .i i.1∧AB BH p t (Iv 0 0) 4 i.2.1 a∧AB C_Span p u (Iv 0 0) 78 i.2.2.1 b∧AB C_Span p v (Iv 0 0) 78 i.2.2.2 c∧CS (Ve (pO a) (Ve (pO b) (pO c))) w p):=by
 have D:CS (Ve (pO a) (Ve (pO b) (pO c))) w w:=CS.refl _ w;have E:=AB.blk o;have F:=AB.blk h;have V:=AB.blk f;unfold Ww at hF;refine AA func15 z ntmps15 (Rc 2 (Ef z (AF z z) ?_));rintro _ W ⟨X,rfl,Y,Z,B,g⟩;have⟨G,a0⟩:=Ebt D B;have⟨o,h,f⟩:=FS o h f B;refine Ro 5 (Fl EL Gy g (Ro 1 ?_));refine Cg hF tC (fun _ j=>(vV j o:)) ?_;rintro b0 hF _ I ⟨rfl,k,H⟩;have J:CS (Ve (pO a) (Ve (pO b) (pO c))) w I:=CS.but G H (BZ (fun d hg=>(Or.inl (Or.inl hg))));have g:=BK.but g H (BZ (Nb.of E));have K:No a b:=(No.symm x);have h:=AB.butF h H (BZ (fun d hg e hq=>K d e hg hq));have L:No a c:=(No.symm y);have f:=AB.butF f H (BZ (fun d hg e hq=>L d e hg hq));have c0:=(H).size;refine Ro 5 (Fl CG CV g (Ro 1 ?_));refine Cg hF fF (fun _ j=>(pD j h:)) ?_;rintro d0 hF _ M ⟨rfl,r,l⟩;have N:CS (Ve (pO a) (Ve (pO b) (pO c))) w M:=CS.but J l (BZ (fun d hg=>(Or.inl (Or.inr (Or.inl hg)))));have g:=BK.but g l (BZ (Nb.of F));have O:No b a:=x;have k:=AB.butF k l (BZ (fun d hg e hq=>O d e hg hq));have P:No b c:=(No.symm A);have f:=AB.butF f l (BZ (fun d hg e hq=>P d e hg hq));have e0:=(l).size;refine Ro 5 (Fl Du CV g (Ro 1 ?_));refine Cg hF fF (fun _ j=>(pD j f:)) ?_;rintro f0 hF _ Q ⟨rfl,R,q⟩;have S:CS (Ve (pO a) (Ve (pO b) (pO c))) w Q:=CS.but N q (BZ (fun d hg=>(Or.inl (Or.inr (Or.inr hg)))));have T:No c a:=y;have k:=AB.butF k q (BZ (fun d hg e hq=>T d e hg hq));have U:No c b:=A;have r:=AB.butF r q (BZ (fun d hg e hq=>U d e hg hq));have g0:=(q).size;cases BQ hF;exact Ro 10 (Ne z z ⟨_,z,z,k,r,R,S⟩)
def Ig(k0:Int->Int->(List AG)->Option (Int×(List AG))):Nat->Int->Int->(List AG)->Option (Int×(List AG))
 |0,_,_,_=>none
 |m+1,d,a,b=>cond (decide (a<(b.length:Int))) ((AE b a).bind fun e=>(AE ((b.set (a).toNat ((AG.mk d e.Required)))) a).bind fun c=>(AE ((((b.set (a).toNat ((AG.mk d e.Required)))).set (a).toNat ((AG.mk c.Node ((AV.mk (wrap .i64 (d+1)) c.Required.Late)))))) a).bind fun f=>Ig k0 m (wrap .i64 ((wrap .i64 ((wrap .i64 (d+1))+1))+1)) (wrap .i64 (a+1)) ((((((b.set (a).toNat ((AG.mk d e.Required)))).set (a).toNat ((AG.mk c.Node ((AV.mk (wrap .i64 (d+1)) c.Required.Late)))))).set (a).toNat ((AG.mk f.Node ((AV.mk f.Required.Early (wrap .i64 ((wrap .i64 (d+1))+1))))))))) (k0 d a b)
def Ze(n:Nat)(a0:List AG)(a1:Int):Option (Int×(List AG)):=Ig (fun c b a=>some (c,a)) n a1 0 a0
theorem yX{m:List AG}{o:Int}{j:Int×(List AG)}{b:Value}{p:Nat}(hF:Ze n m o=some j)(q:AB C_Target w p (Iv 0 0) 80 m b):
 Calls prog 16 [b,.i o].toArray w (DA fun D r=>D= .i j.1∧AB C_Target r p (Iv 0 0) 80 j.2 b∧CS (pO b) w r):=by
 have E:CS (pO b) w w:=CS.refl _ w;have W:=AB.blk q;unfold Ze at hF;refine AA func16 z ntmps16 (Rc 12 (WC.loopD (fun g k wl=>∃(a c:Int) (d:List AG),Kn 36 [(0,b),(1,.i a),(5,.i c)] k∧CS (pO b) w wl∧w.heap.size<=wl.heap.size∧AB C_Target wl (p) (Iv 0 0) 80 d b∧Ig (fun a c d=>(some (a,d))) g a c d=some j) n ?_ ?_))
 ·intro k hK;exact⟨o,0,m,hK.sub z,E,nr,q,hF⟩
 ·rintro g k X ⟨a,c,d,hK,s,Y,H,hF⟩;refine By hK ?_;rcases g with _|g;exact Bx hF;rw [Ig.eq_2]at hF;refine Rc 5 (Yl z (Mg z Cz H) (Ro 3 (Wc z hF ?_ ?_)))
  ·intro hF;refine Rc 9 (Io hF H Cz DJ ?_);rintro l F hF _ ⟨Z,a0,rfl,t,u,G⟩;have I:=u;obtain rfl:=BJ u;refine Yl z (BF z LV) ?_;refine Ef z (Ag (c:=C_Target) (us':=[.i a,.i l.Required.Early,.i l.Required.Late]) (y':=(AG.mk a l.Required)) 0 _ z z z H t F z Ap z I G z z DE (fun h i=>absurd i.2 (Nat.not_lt_zero h))) ?_;rintro _ b0 ⟨J,v⟩;have⟨K,c0⟩:=oG s J (Or.inl t);refine Ro 14 (Io hF v Cz DJ ?_);rintro e L hF _ ⟨d0,e0,rfl,x,y,M⟩;have N:=y;obtain rfl:=BJ y;refine Yl z (BF z Dw) (Yl z (BF z Bb) ?_);refine Ef z (Ag (c:=C_Target) (us':=[.i e.Node,.i (wrap .i64 (a+1)),.i e.Required.Late]) (y':=(AG.mk e.Node ((AV.mk (wrap .i64 (a+1)) e.Required.Late)))) 1 _ z z z v x L z Ap z N M z z DE (fun h i=>absurd i.2 (Nat.not_lt_zero h))) ?_;rintro _ f0 ⟨O,A⟩;have⟨P,g0⟩:=oG K O (Or.inl x);refine Ro 14 (Io hF A Cz DJ ?_);rintro f Q hF _ ⟨h0,i0,rfl,B,C,R⟩;have S:=C;obtain rfl:=BJ C;refine Yl z (BF z Dw) (Yl z (BF z BW) ?_);refine Ef z (Ag (c:=C_Target) (us':=[.i f.Node,.i f.Required.Early,.i (wrap .i64 ((wrap .i64 (a+1))+1))]) (y':=(AG.mk f.Node ((AV.mk f.Required.Early (wrap .i64 ((wrap .i64 (a+1))+1)))))) 2 _ z z z A B Q z Ap z S R z z DE (fun h i=>absurd i.2 (Nat.not_lt_zero h))) ?_;rintro _ j0 ⟨T,U⟩;have⟨V,k0⟩:=oG P T (Or.inl B);refine Ro 15 ?_;intro k hK;exact⟨g,nr,(wrap .i64 ((wrap .i64 ((wrap .i64 (a+1))+1))+1)),(wrap .i64 (c+1)),((((((d.set (c).toNat ((AG.mk a l.Required)))).set (c).toNat ((AG.mk e.Node ((AV.mk (wrap .i64 (a+1)) e.Required.Late)))))).set (c).toNat ((AG.mk f.Node ((AV.mk f.Required.Early (wrap .i64 ((wrap .i64 (a+1))+1)))))))),hK.sub z,V,(by omega),U,hF⟩
  ·intro hF;cases BQ hF;exact Rc 12 (Ne z z ⟨_,z,z,H,s⟩)
def Hz(a0:List AG)(k0:Int->Int->Option Int):Nat->Int->Int->Option Int
 |0,_,_=>none
 |m+1,b,a=>cond (decide (a<(a0.length:Int))) ((AE a0 a).bind fun e=>cond (e.Node !=b) (some (-1)) ((AE a0 a).bind fun d=>cond (d.Required.Early !=(wrap .i64 (b+1))) (some (-1)) ((AE a0 a).bind fun c=>cond (c.Required.Late !=(wrap .i64 ((wrap .i64 (b+1))+1))) (some (-1)) (Hz a0 k0 m (wrap .i64 ((wrap .i64 ((wrap .i64 (b+1))+1))+1)) (wrap .i64 (a+1)))))) (k0 b a)
def Ut(n:Nat)(a0:List AG)(a1:Int):Option Int:=Hz a0 (fun a b=>some a) n a1 0
theorem qK{i:List AG}{j k:Int}{l:Value}(a:Ut n i j=some k)(t:H<=w.heap.size)(g:AR C_Target w H i l):
 Calls prog 17 [l,.i j].toArray w (Ao (.i k) w):=by
 unfold Ut at a;refine AA func17 z ntmps17 (Rc 12 (WC.loopD (fun d h wl=>∃c e:Int,Kn 42 [(0,l),(1,.i c),(5,.i e)] h∧AJ w wl∧Hz i (fun c e=>(some c)) d c e=some k) n ?_ ?_))
 ·intro h f;exact⟨j,0,f.sub z,AJ.refl _,a⟩
 ·rintro d h u ⟨c,e,f,b,a⟩;refine By f ?_;rcases d with _|d;exact Bx a;rw [Hz.eq_2]at a;have v:=b.size;refine Rc 5 (Yl z (Bs z Cz (g.oj b)) (Ro 3 (Wf a b ?_)));intro a;refine Rc 9 (Ix a (g.oj b) Cz DJ ?_);rintro x y a _ ⟨A,B,C,rfl,D,m,o⟩;obtain rfl:=BJ m;refine Fc LV AI o (Ro 4 (Wt a b ?_));intro a;refine Rc 14 (Ix a (g.oj b) Cz DJ ?_);rintro E F a _ ⟨G,I,J,rfl,K,p,q⟩;obtain rfl:=BJ p;refine Yl z (BF z Dw) (Yl z (BF z Bb) (Yl z (FG 1 z AI q z z) (Ro 4 (Wt a b ?_))));intro a;refine Rc 14 (Ix a (g.oj b) Cz DJ ?_);rintro L M a _ ⟨N,O,P,rfl,Q,r,s⟩;obtain rfl:=BJ r;refine Yl z (BF z Dw) (Yl z (BF z BW) (Yl z (FG 2 z AI s z z) (Ro 4 (Wt a b ?_))));intro a;refine Rc 15 ?_;intro h f;exact⟨d,nr,(wrap .i64 ((wrap .i64 ((wrap .i64 (c+1))+1))+1)),(wrap .i64 (e+1)),f.sub z,b,a⟩

theorem Er{n:Nat}{a:List Int}{left:Int}(hR:(fun xs=>xs.length<=9223372036854775807∧∀x∈xs,(Ki .i64) x) a)(h0:0<=left)(h1:left<=1048576)(hn:1048577<=n):∃r,SK n a left=some r∧r<=left∧(0<=r->(fun xs=>xs.length<=1048576∧∀x∈xs,(fun _=>True) x) a):=by
 have hl:=hR.1
 rw [SK,Aa (by omega) (by omega)]
 by_cases h:left-(a.length:Int)<0
 ·rw [decide_eq_true h];exact⟨-1,z,by omega,fun h=>by omega⟩
 ·rw [decide_eq_false h];exact⟨_,z,by omega,fun _=>⟨by omega,fun x _=>trivial⟩⟩
theorem uL{n:Nat}{a:BD}{left:Int}(hR:Oz a)(h0:0<=left)(h1:left<=1048576)(hn:1048577<=n):∃r,Qm n a left=some r∧r<=left∧(0<=r->JG a):=by
 rw [Qm]
 have g0:a.Name.size<=9223372036854775807:=Dm▸hR.1
 have w0:wrap .i64 (left-(a.Name.size:Int))=left-(a.Name.size:Int):=Aa (by omega) (by omega)
 rw [w0]
 generalize hq0:left-(a.Name.size:Int)=r0
 by_cases h_0:r0<0
 ·rw [decide_eq_true h_0];exact⟨-1,z,by omega,fun h=>by omega⟩
 rw [decide_eq_false h_0,cond_false]
 exact⟨_,z,by omega,fun _=>⟨(by omega),trivial,trivial,trivial⟩⟩
theorem iH{n:Nat}{a:List BD}{left:Int}(hR:(fun xs=>xs.length<=9223372036854775807∧∀x∈xs,Oz x) a)(h0:0<=left)(h1:left<=1048576)(hn:1048577<=n):∃r,mW n a left=some r∧r<=left∧(0<=r->(fun xs=>xs.length<=1048576∧∀x∈xs,JG x) a):=by
 have hl:=hR.1
 rw [mW,Aa (by omega) (by omega)]
 by_cases h:left-(a.length:Int)<0
 ·rw [decide_eq_true h];exact⟨-1,z,by omega,fun h=>by omega⟩
 ·rw [decide_eq_false h,cond_false]
  have⟨r,e,hr,hs⟩:=aS (xs:=a) (L:=fun m l i=>HN n a (fun i7 i8=>(some i7)) m l i) (f:=Qm n) (SM:=JG) (by omega) (fun x hx left g0 g1=>uL (hR.2 x hx) g0 g1 hn) (fun m i left hi hi2=>by simp only [HN.eq_2,Mf hi,cond_true,Dh hi,Option.bind_some,VK hi2]) (fun m left=>by simp only [HN.eq_2,Ml,cond_false]) n 0 (left-(a.length:Int)) (by omega) (by omega) (by omega) (by omega) (fun j _ hj=>by omega)
  exact⟨r,e,by omega,fun h=>⟨by omega,hs h⟩⟩
theorem cW{n:Nat}{a:AS}{left:Int}(hR:IY a)(h0:0<=left)(h1:left<=1048576)(hn:1048577<=n):∃r,Rb n a left=some r∧r<=left∧(0<=r->DT a):=by
 rw [Rb]
 have⟨r0,e0,l0,s0⟩:=Er (n:=n) (left:=left) hR.1 h0 h1 hn
 rw [e0,Option.bind_some]
 by_cases h_0:r0<0
 ·rw [decide_eq_true h_0];exact⟨-1,z,by omega,fun h=>by omega⟩
 rw [decide_eq_false h_0,cond_false]
 have⟨r1,e1,l1,s1⟩:=Er (n:=n) (left:=r0) hR.2.1 (show(0:Int)<=r0 by omega) (by omega) hn
 rw [e1,Option.bind_some]
 by_cases h_1:r1<0
 ·rw [decide_eq_true h_1];exact⟨-1,z,by omega,fun h=>by omega⟩
 rw [decide_eq_false h_1,cond_false]
 have⟨r2,e2,l2,s2⟩:=Er (n:=n) (left:=r1) hR.2.2 (show(0:Int)<=r1 by omega) (by omega) hn
 rw [e2,Option.bind_some]
 by_cases h_2:r2<0
 ·rw [decide_eq_true h_2];exact⟨-1,z,by omega,fun h=>by omega⟩
 rw [decide_eq_false h_2,cond_false]
 exact⟨_,z,by omega,fun _=>⟨s0 (by omega),s1 (by omega),s2 (by omega)⟩⟩
theorem RU{n:Nat}{a:List AS}{left:Int}(hR:(fun xs=>xs.length<=9223372036854775807∧∀x∈xs,IY x) a)(h0:0<=left)(h1:left<=1048576)(hn:1048577<=n):∃r,fY n a left=some r∧r<=left∧(0<=r->(fun xs=>xs.length<=1048576∧∀x∈xs,DT x) a):=by
 have hl:=hR.1
 rw [fY,Aa (by omega) (by omega)]
 by_cases h:left-(a.length:Int)<0
 ·rw [decide_eq_true h];exact⟨-1,z,by omega,fun h=>by omega⟩
 ·rw [decide_eq_false h,cond_false]
  have⟨r,e,hr,hs⟩:=aS (xs:=a) (L:=fun m l i=>HD n a (fun i7 i8=>(some i7)) m l i) (f:=Rb n) (SM:=DT) (by omega) (fun x hx left g0 g1=>cW (hR.2 x hx) g0 g1 hn) (fun m i left hi hi2=>by simp only [HD.eq_2,Mf hi,cond_true,Dh hi,Option.bind_some,VK hi2]) (fun m left=>by simp only [HD.eq_2,Ml,cond_false]) n 0 (left-(a.length:Int)) (by omega) (by omega) (by omega) (by omega) (fun j _ hj=>by omega)
  exact⟨r,e,by omega,fun h=>⟨by omega,hs h⟩⟩
theorem sR{n:Nat}{a:Ah}{left:Int}(hR:PA a)(h0:0<=left)(h1:left<=1048576)(hn:1048577<=n):∃r,QN n a left=some r∧r<=left∧(0<=r->JP a):=by
 rw [QN]
 have⟨r0,e0,l0,s0⟩:=RU (n:=n) (left:=left) hR.2.2.2.2.1 h0 h1 hn
 rw [e0,Option.bind_some]
 by_cases h_0:r0<0
 ·rw [decide_eq_true h_0];exact⟨-1,z,by omega,fun h=>by omega⟩
 rw [decide_eq_false h_0,cond_false]
 have⟨r1,e1,l1,s1⟩:=RU (n:=n) (left:=r0) hR.2.2.2.2.2 (show(0:Int)<=r0 by omega) (by omega) hn
 rw [e1,Option.bind_some]
 by_cases h_1:r1<0
 ·rw [decide_eq_true h_1];exact⟨-1,z,by omega,fun h=>by omega⟩
 rw [decide_eq_false h_1,cond_false]
 exact⟨_,z,by omega,fun _=>⟨trivial,trivial,trivial,trivial,s0 (by omega),s1 (by omega)⟩⟩
theorem jB{n:Nat}{a:List Ah}{left:Int}(hR:(fun xs=>xs.length<=9223372036854775807∧∀x∈xs,PA x) a)(h0:0<=left)(h1:left<=1048576)(hn:1048577<=n):∃r,jF n a left=some r∧r<=left∧(0<=r->(fun xs=>xs.length<=1048576∧∀x∈xs,JP x) a):=by
 have hl:=hR.1
 rw [jF,Aa (by omega) (by omega)]
 by_cases h:left-(a.length:Int)<0
 ·rw [decide_eq_true h];exact⟨-1,z,by omega,fun h=>by omega⟩
 ·rw [decide_eq_false h,cond_false]
  have⟨r,e,hr,hs⟩:=aS (xs:=a) (L:=fun m l i=>HF n a (fun i7 i8=>(some i7)) m l i) (f:=QN n) (SM:=JP) (by omega) (fun x hx left g0 g1=>sR (hR.2 x hx) g0 g1 hn) (fun m i left hi hi2=>by simp only [HF.eq_2,Mf hi,cond_true,Dh hi,Option.bind_some,VK hi2]) (fun m left=>by simp only [HF.eq_2,Ml,cond_false]) n 0 (left-(a.length:Int)) (by omega) (by omega) (by omega) (by omega) (fun j _ hj=>by omega)
  exact⟨r,e,by omega,fun h=>⟨by omega,hs h⟩⟩
theorem jA{n:Nat}{a:AX}{left:Int}(hR:MW a)(h0:0<=left)(h1:left<=1048576)(hn:1048577<=n):∃r,QM n a left=some r∧r<=left∧(0<=r->Eo a):=by
 rw [QM]
 have g0:a.Name.size<=9223372036854775807:=Dm▸hR.1
 have w0:wrap .i64 (left-(a.Name.size:Int))=left-(a.Name.size:Int):=Aa (by omega) (by omega)
 rw [w0]
 generalize hq0:left-(a.Name.size:Int)=r0
 by_cases h_0:r0<0
 ·rw [decide_eq_true h_0];exact⟨-1,z,by omega,fun h=>by omega⟩
 rw [decide_eq_false h_0,cond_false]
 have⟨r1,e1,l1,s1⟩:=iH (n:=n) (left:=r0) hR.2.2.1 (show(0:Int)<=r0 by omega) (by omega) hn
 rw [e1,Option.bind_some]
 by_cases h_1:r1<0
 ·rw [decide_eq_true h_1];exact⟨-1,z,by omega,fun h=>by omega⟩
 rw [decide_eq_false h_1,cond_false]
 have⟨r2,e2,l2,s2⟩:=jB (n:=n) (left:=r1) hR.2.2.2.1 (show(0:Int)<=r1 by omega) (by omega) hn
 rw [e2,Option.bind_some]
 by_cases h_2:r2<0
 ·rw [decide_eq_true h_2];exact⟨-1,z,by omega,fun h=>by omega⟩
 rw [decide_eq_false h_2,cond_false]
 have⟨r3,e3,l3,s3⟩:=Er (n:=n) (left:=r2) hR.2.2.2.2.1 (show(0:Int)<=r2 by omega) (by omega) hn
 rw [e3,Option.bind_some]
 by_cases h_3:r3<0
 ·rw [decide_eq_true h_3];exact⟨-1,z,by omega,fun h=>by omega⟩
 rw [decide_eq_false h_3,cond_false]
 exact⟨_,z,by omega,fun _=>⟨(by omega),trivial,s1 (by omega),s2 (by omega),s3 (by omega),trivial,trivial⟩⟩
theorem bZ{n:Nat}{a:List AX}{left:Int}(hR:(fun xs=>xs.length<=9223372036854775807∧∀x∈xs,MW x) a)(h0:0<=left)(h1:left<=1048576)(hn:1048577<=n):∃r,Sz n a left=some r∧r<=left∧(0<=r->(fun xs=>xs.length<=1048576∧∀x∈xs,Eo x) a):=by
 have hl:=hR.1
 rw [Sz,Aa (by omega) (by omega)]
 by_cases h:left-(a.length:Int)<0
 ·rw [decide_eq_true h];exact⟨-1,z,by omega,fun h=>by omega⟩
 ·rw [decide_eq_false h,cond_false]
  have⟨r,e,hr,hs⟩:=aS (xs:=a) (L:=fun m l i=>FP n a (fun i7 i8=>(some i7)) m l i) (f:=QM n) (SM:=Eo) (by omega) (fun x hx left g0 g1=>jA (hR.2 x hx) g0 g1 hn) (fun m i left hi hi2=>by simp only [FP.eq_2,Mf hi,cond_true,Dh hi,Option.bind_some,VK hi2]) (fun m left=>by simp only [FP.eq_2,Ml,cond_false]) n 0 (left-(a.length:Int)) (by omega) (by omega) (by omega) (by omega) (fun j _ hj=>by omega)
  exact⟨r,e,by omega,fun h=>⟨by omega,hs h⟩⟩
theorem VR{n:Nat}{a:Ab}{left:Int}(hR:KU a)(h0:0<=left)(h1:left<=1048576)(hn:1048577<=n):∃r,SV n a left=some r∧r<=left∧(0<=r->Hj a):=by
 rw [SV]
 have⟨r0,e0,l0,s0⟩:=bZ (n:=n) (left:=left) hR h0 h1 hn
 rw [e0,Option.bind_some]
 by_cases h_0:r0<0
 ·rw [decide_eq_true h_0];exact⟨-1,z,by omega,fun h=>by omega⟩
 rw [decide_eq_false h_0,cond_false]
 exact⟨_,z,by omega,fun _=>s0 (by omega)⟩
theorem Sr{n:Nat}{a:AO}{left:Int}(hR:FM a)(h0:0<=left)(h1:left<=1048576)(hn:1048577<=n):∃r,Pz n a left=some r∧r<=left∧(0<=r->DY a):=by
 rw [Pz]
 have g0:a.Name.size<=9223372036854775807:=Dm▸hR.1
 have w0:wrap .i64 (left-(a.Name.size:Int))=left-(a.Name.size:Int):=Aa (by omega) (by omega)
 rw [w0]
 generalize hq0:left-(a.Name.size:Int)=r0
 by_cases h_0:r0<0
 ·rw [decide_eq_true h_0];exact⟨-1,z,by omega,fun h=>by omega⟩
 rw [decide_eq_false h_0,cond_false]
 have⟨r1,e1,l1,s1⟩:=Er (n:=n) (left:=r0) hR.2.2 (show(0:Int)<=r0 by omega) (by omega) hn
 rw [e1,Option.bind_some]
 by_cases h_1:r1<0
 ·rw [decide_eq_true h_1];exact⟨-1,z,by omega,fun h=>by omega⟩
 rw [decide_eq_false h_1,cond_false]
 exact⟨_,z,by omega,fun _=>⟨(by omega),trivial,s1 (by omega)⟩⟩
theorem QA{n:Nat}{a:List AO}{left:Int}(hR:(fun xs=>xs.length<=9223372036854775807∧∀x∈xs,FM x) a)(h0:0<=left)(h1:left<=1048576)(hn:1048577<=n):∃r,TE n a left=some r∧r<=left∧(0<=r->(fun xs=>xs.length<=1048576∧∀x∈xs,DY x) a):=by
 have hl:=hR.1
 rw [TE,Aa (by omega) (by omega)]
 by_cases h:left-(a.length:Int)<0
 ·rw [decide_eq_true h];exact⟨-1,z,by omega,fun h=>by omega⟩
 ·rw [decide_eq_false h,cond_false]
  have⟨r,e,hr,hs⟩:=aS (xs:=a) (L:=fun m l i=>Fa n a (fun i7 i8=>(some i7)) m l i) (f:=Pz n) (SM:=DY) (by omega) (fun x hx left g0 g1=>Sr (hR.2 x hx) g0 g1 hn) (fun m i left hi hi2=>by simp only [Fa.eq_2,Mf hi,cond_true,Dh hi,Option.bind_some,VK hi2]) (fun m left=>by simp only [Fa.eq_2,Ml,cond_false]) n 0 (left-(a.length:Int)) (by omega) (by omega) (by omega) (by omega) (fun j _ hj=>by omega)
  exact⟨r,e,by omega,fun h=>⟨by omega,hs h⟩⟩
theorem VA{n:Nat}{a:List ByteArray}{left:Int}(hR:(fun xs=>xs.length<=9223372036854775807∧∀x∈xs,(fun s=>s.size<=maxLen) x) a)(h0:0<=left)(h1:left<=1048576)(hn:1048577<=n):∃r,Sf n a left=some r∧r<=left∧(0<=r->(fun xs=>xs.length<=1048576∧∀x∈xs,(fun s=>s.size<=1048576) x) a):=by
 have hl:=hR.1
 rw [Sf,Aa (by omega) (by omega)]
 by_cases h:left-(a.length:Int)<0
 ·rw [decide_eq_true h];exact⟨-1,z,by omega,fun h=>by omega⟩
 ·rw [decide_eq_false h,cond_false]
  have⟨r,e,hr,hs⟩:=aS (xs:=a) (L:=fun m l i=>FZ a (fun i5 i6=>(some i5)) m l i) (f:=fun(x:ByteArray) (l:Int)=>cond (decide (wrap .i64 (l-(x.size:Int))<0)) (some (-1)) (some (wrap .i64 (l-(x.size:Int))))) (SM:=fun s=>s.size<=1048576) (by omega) (fun x hx l g0 g1=>by
   have g:=hR.2 x hx
   have g:(x.size:Int)<=9223372036854775807:=by rw [Dm]at g;omega
   rw [Aa (by omega) (by omega)]
   by_cases h1:l-(x.size:Int)<0
   ·exact⟨-1,by rw [decide_eq_true h1];rfl,by omega,fun h=>by omega⟩
   ·exact⟨_,by rw [decide_eq_false h1];rfl,by omega,fun _=>by omega⟩) (fun m i l hi hi2=>by
   simp only [FZ.eq_2,Mf hi,cond_true,Dh hi,Option.bind_some,VK hi2]
   cases h1:decide (wrap .i64 (l-(a[i].size:Int))<0)with
   |true=>simp
   |false=>simp only [cond_false,Option.bind_some,h1]) (fun m left=>by simp only [FZ.eq_2,Ml,cond_false]) n 0 (left-(a.length:Int)) (by omega) (by omega) (by omega) (by omega) (fun j _ hj=>by omega)
  exact⟨r,e,by omega,fun h=>⟨by omega,hs h⟩⟩
theorem nL{n:Nat}{a:BG}{left:Int}(hR:ML a)(h0:0<=left)(h1:left<=1048576)(hn:1048577<=n):∃r,RK n a left=some r∧r<=left∧(0<=r->GX a):=by
 rw [RK]
 have g0:a.Name.size<=9223372036854775807:=Dm▸hR.1
 have w0:wrap .i64 (left-(a.Name.size:Int))=left-(a.Name.size:Int):=Aa (by omega) (by omega)
 rw [w0]
 generalize hq0:left-(a.Name.size:Int)=r0
 by_cases h_0:r0<0
 ·rw [decide_eq_true h_0];exact⟨-1,z,by omega,fun h=>by omega⟩
 rw [decide_eq_false h_0,cond_false]
 exact⟨_,z,by omega,fun _=>⟨(by omega),trivial,trivial⟩⟩
theorem bI{n:Nat}{a:List BG}{left:Int}(hR:(fun xs=>xs.length<=9223372036854775807∧∀x∈xs,ML x) a)(h0:0<=left)(h1:left<=1048576)(hn:1048577<=n):∃r,SB n a left=some r∧r<=left∧(0<=r->(fun xs=>xs.length<=1048576∧∀x∈xs,GX x) a):=by
 have hl:=hR.1
 rw [SB,Aa (by omega) (by omega)]
 by_cases h:left-(a.length:Int)<0
 ·rw [decide_eq_true h];exact⟨-1,z,by omega,fun h=>by omega⟩
 ·rw [decide_eq_false h,cond_false]
  have⟨r,e,hr,hs⟩:=aS (xs:=a) (L:=fun m l i=>FX n a (fun i7 i8=>(some i7)) m l i) (f:=RK n) (SM:=GX) (by omega) (fun x hx left g0 g1=>nL (hR.2 x hx) g0 g1 hn) (fun m i left hi hi2=>by simp only [FX.eq_2,Mf hi,cond_true,Dh hi,Option.bind_some,VK hi2]) (fun m left=>by simp only [FX.eq_2,Ml,cond_false]) n 0 (left-(a.length:Int)) (by omega) (by omega) (by omega) (by omega) (fun j _ hj=>by omega)
  exact⟨r,e,by omega,fun h=>⟨by omega,hs h⟩⟩
theorem WE{n:Nat}{a:AP}{left:Int}(hR:Ld a)(h0:0<=left)(h1:left<=1048576)(hn:1048577<=n):∃r,SS n a left=some r∧r<=left∧(0<=r->KN a):=by
 rw [SS]
 have⟨r0,e0,l0,s0⟩:=QA (n:=n) (left:=left) hR.1 h0 h1 hn
 rw [e0,Option.bind_some]
 by_cases h_0:r0<0
 ·rw [decide_eq_true h_0];exact⟨-1,z,by omega,fun h=>by omega⟩
 rw [decide_eq_false h_0,cond_false]
 have⟨r1,e1,l1,s1⟩:=VA (n:=n) (left:=r0) hR.2.1 (show(0:Int)<=r0 by omega) (by omega) hn
 rw [e1,Option.bind_some]
 by_cases h_1:r1<0
 ·rw [decide_eq_true h_1];exact⟨-1,z,by omega,fun h=>by omega⟩
 rw [decide_eq_false h_1,cond_false]
 have⟨r2,e2,l2,s2⟩:=bI (n:=n) (left:=r1) hR.2.2 (show(0:Int)<=r1 by omega) (by omega) hn
 rw [e2,Option.bind_some]
 by_cases h_2:r2<0
 ·rw [decide_eq_true h_2];exact⟨-1,z,by omega,fun h=>by omega⟩
 rw [decide_eq_false h_2,cond_false]
 exact⟨_,z,by omega,fun _=>⟨s0 (by omega),s1 (by omega),s2 (by omega)⟩⟩
theorem kQ{n:Nat}{a:Ar}{left:Int}(hR:MG a)(h0:0<=left)(h1:left<=1048576)(hn:1048577<=n):∃r,Qi n a left=some r∧r<=left∧(0<=r->Gu a):=by
 rw [Qi]
 have⟨r0,e0,l0,s0⟩:=Er (n:=n) (left:=left) hR.1 h0 h1 hn
 rw [e0,Option.bind_some]
 by_cases h_0:r0<0
 ·rw [decide_eq_true h_0];exact⟨-1,z,by omega,fun h=>by omega⟩
 rw [decide_eq_false h_0,cond_false]
 have⟨r1,e1,l1,s1⟩:=Er (n:=n) (left:=r0) hR.2.1 (show(0:Int)<=r0 by omega) (by omega) hn
 rw [e1,Option.bind_some]
 by_cases h_1:r1<0
 ·rw [decide_eq_true h_1];exact⟨-1,z,by omega,fun h=>by omega⟩
 rw [decide_eq_false h_1,cond_false]
 have⟨r2,e2,l2,s2⟩:=Er (n:=n) (left:=r1) hR.2.2.1 (show(0:Int)<=r1 by omega) (by omega) hn
 rw [e2,Option.bind_some]
 by_cases h_2:r2<0
 ·rw [decide_eq_true h_2];exact⟨-1,z,by omega,fun h=>by omega⟩
 rw [decide_eq_false h_2,cond_false]
 have⟨r3,e3,l3,s3⟩:=Er (n:=n) (left:=r2) hR.2.2.2 (show(0:Int)<=r2 by omega) (by omega) hn
 rw [e3,Option.bind_some]
 by_cases h_3:r3<0
 ·rw [decide_eq_true h_3];exact⟨-1,z,by omega,fun h=>by omega⟩
 rw [decide_eq_false h_3,cond_false]
 exact⟨_,z,by omega,fun _=>⟨s0 (by omega),s1 (by omega),s2 (by omega),s3 (by omega)⟩⟩
theorem aL{n:Nat}{a:List Ar}{left:Int}(hR:(fun xs=>xs.length<=9223372036854775807∧∀x∈xs,MG x) a)(h0:0<=left)(h1:left<=1048576)(hn:1048577<=n):∃r,SG n a left=some r∧r<=left∧(0<=r->(fun xs=>xs.length<=1048576∧∀x∈xs,Gu x) a):=by
 have hl:=hR.1
 rw [SG,Aa (by omega) (by omega)]
 by_cases h:left-(a.length:Int)<0
 ·rw [decide_eq_true h];exact⟨-1,z,by omega,fun h=>by omega⟩
 ·rw [decide_eq_false h,cond_false]
  have⟨r,e,hr,hs⟩:=aS (xs:=a) (L:=fun m l i=>Fb n a (fun i7 i8=>(some i7)) m l i) (f:=Qi n) (SM:=Gu) (by omega) (fun x hx left g0 g1=>kQ (hR.2 x hx) g0 g1 hn) (fun m i left hi hi2=>by simp only [Fb.eq_2,Mf hi,cond_true,Dh hi,Option.bind_some,VK hi2]) (fun m left=>by simp only [Fb.eq_2,Ml,cond_false]) n 0 (left-(a.length:Int)) (by omega) (by omega) (by omega) (by omega) (fun j _ hj=>by omega)
  exact⟨r,e,by omega,fun h=>⟨by omega,hs h⟩⟩
theorem bN{n:Nat}{a:AQ}{left:Int}(hR:Mq a)(h0:0<=left)(h1:left<=1048576)(hn:1048577<=n):∃r,Rp n a left=some r∧r<=left∧(0<=r->HU a):=by
 rw [Rp]
 have⟨r0,e0,l0,s0⟩:=VR (n:=n) (left:=left) hR.1 h0 h1 hn
 rw [e0,Option.bind_some]
 by_cases h_0:r0<0
 ·rw [decide_eq_true h_0];exact⟨-1,z,by omega,fun h=>by omega⟩
 rw [decide_eq_false h_0,cond_false]
 have⟨r1,e1,l1,s1⟩:=WE (n:=n) (left:=r0) hR.2.1 (show(0:Int)<=r0 by omega) (by omega) hn
 rw [e1,Option.bind_some]
 by_cases h_1:r1<0
 ·rw [decide_eq_true h_1];exact⟨-1,z,by omega,fun h=>by omega⟩
 rw [decide_eq_false h_1,cond_false]
 have⟨r2,e2,l2,s2⟩:=aL (n:=n) (left:=r1) hR.2.2 (show(0:Int)<=r1 by omega) (by omega) hn
 rw [e2,Option.bind_some]
 by_cases h_2:r2<0
 ·rw [decide_eq_true h_2];exact⟨-1,z,by omega,fun h=>by omega⟩
 rw [decide_eq_false h_2,cond_false]
 exact⟨_,z,by omega,fun _=>⟨s0 (by omega),s1 (by omega),s2 (by omega)⟩⟩
theorem aM{n:Nat}{a:List Bool}{left:Int}(hR:(fun xs=>xs.length<=9223372036854775807∧∀x∈xs,(fun _=>True) x) a)(h0:0<=left)(h1:left<=1048576)(hn:1048577<=n):∃r,Xi n a left=some r∧r<=left∧(0<=r->(fun xs=>xs.length<=1048576∧∀x∈xs,(fun _=>True) x) a):=by
 have hl:=hR.1
 rw [Xi,Aa (by omega) (by omega)]
 by_cases h:left-(a.length:Int)<0
 ·rw [decide_eq_true h];exact⟨-1,z,by omega,fun h=>by omega⟩
 ·rw [decide_eq_false h];exact⟨_,z,by omega,fun _=>⟨by omega,fun x _=>trivial⟩⟩
theorem Tx{n:Nat}{a:List AV}{left:Int}(hR:(fun xs=>xs.length<=9223372036854775807∧∀x∈xs,Nz x) a)(h0:0<=left)(h1:left<=1048576)(hn:1048577<=n):∃r,Ub n a left=some r∧r<=left∧(0<=r->(fun xs=>xs.length<=1048576∧∀x∈xs,Ga x) a):=by
 have hl:=hR.1
 rw [Ub,Aa (by omega) (by omega)]
 by_cases h:left-(a.length:Int)<0
 ·rw [decide_eq_true h];exact⟨-1,z,by omega,fun h=>by omega⟩
 ·rw [decide_eq_false h];exact⟨_,z,by omega,fun _=>⟨by omega,fun x _=>⟨trivial,trivial⟩⟩⟩
theorem YN{n:Nat}{a:Ac}{left:Int}(hR:NH a)(h0:0<=left)(h1:left<=1048576)(hn:1048577<=n):∃r,XF n a left=some r∧r<=left∧(0<=r->Jt a):=by
 rw [XF]
 have⟨r0,e0,l0,s0⟩:=aM (n:=n) (left:=left) hR.1 h0 h1 hn
 rw [e0,Option.bind_some]
 by_cases h_0:r0<0
 ·rw [decide_eq_true h_0];exact⟨-1,z,by omega,fun h=>by omega⟩
 rw [decide_eq_false h_0,cond_false]
 have⟨r1,e1,l1,s1⟩:=Tx (n:=n) (left:=r0) hR.2.1 (show(0:Int)<=r0 by omega) (by omega) hn
 rw [e1,Option.bind_some]
 by_cases h_1:r1<0
 ·rw [decide_eq_true h_1];exact⟨-1,z,by omega,fun h=>by omega⟩
 rw [decide_eq_false h_1,cond_false]
 have⟨r2,e2,l2,s2⟩:=Tx (n:=n) (left:=r1) hR.2.2 (show(0:Int)<=r1 by omega) (by omega) hn
 rw [e2,Option.bind_some]
 by_cases h_2:r2<0
 ·rw [decide_eq_true h_2];exact⟨-1,z,by omega,fun h=>by omega⟩
 rw [decide_eq_false h_2,cond_false]
 exact⟨_,z,by omega,fun _=>⟨s0 (by omega),s1 (by omega),s2 (by omega)⟩⟩
theorem Oc{n:Nat}{a:List Int}{k:Int->List Int->Option (List Int)}:∀(m:Nat) (i:Int) (l:List Int),MF a k m i l=Rn a (some) k m i l
 |0,_,_=>rfl
 |m+1,i,l=>by simp only [MF.eq_2,Is,Option.bind_some,Oc (n:=n) (a:=a) (k:=k) m]
theorem Eg{n:Nat}{a:List Int}(h:(fun xs=>xs.length<=1048576∧∀x∈xs,(fun _=>True) x) a)(hn:1048577<=n):Uh n a=some a:=by
 rw [Uh,Ds h.1 (by omega),Option.bind_some,Oc (n:=n)]
 exact GN (fun x hx=>z) h.1 hn
theorem qJ{n:Nat}{a:BD}(h:JG a)(hn:1048577<=n):Wn n a=some a:=by
 rfl
theorem TM{n:Nat}{a:List BD}{k:Int->List BD->Option (List BD)}:∀(m:Nat) (i:Int) (l:List BD),KE n a k m i l=Rn a (Wn n) k m i l
 |0,_,_=>rfl
 |m+1,i,l=>by simp only [KE.eq_2,Is,Option.bind_some,TM (n:=n) (a:=a) (k:=k) m]
theorem iW{n:Nat}{a:List BD}(h:(fun xs=>xs.length<=1048576∧∀x∈xs,JG x) a)(hn:1048577<=n):YJ n a=some a:=by
 rw [YJ,Ds h.1 (by omega),Option.bind_some,TM (n:=n)]
 exact GN (fun x hx=>qJ (h.2 x hx) hn) h.1 hn
theorem dW{n:Nat}{a:AS}(h:DT a)(hn:1048577<=n):Uq n a=some a:=by
 rw [Uq];simp only [Eg (h.1) hn,Eg (h.2.1) hn,Eg (h.2.2) hn,Option.bind_some]
theorem OW{n:Nat}{a:List AS}{k:Int->List AS->Option (List AS)}:∀(m:Nat) (i:Int) (l:List AS),KF n a k m i l=Rn a (Uq n) k m i l
 |0,_,_=>rfl
 |m+1,i,l=>by simp only [KF.eq_2,Is,Option.bind_some,OW (n:=n) (a:=a) (k:=k) m]
theorem Qf{n:Nat}{a:List AS}(h:(fun xs=>xs.length<=1048576∧∀x∈xs,DT x) a)(hn:1048577<=n):UH n a=some a:=by
 rw [UH,Ds h.1 (by omega),Option.bind_some,OW (n:=n)]
 exact GN (fun x hx=>dW (h.2 x hx) hn) h.1 hn
theorem tN{n:Nat}{a:Ah}(h:JP a)(hn:1048577<=n):VC n a=some a:=by
 rw [VC];simp only [Qf (h.2.2.2.2.1) hn,Qf (h.2.2.2.2.2) hn,Option.bind_some]
theorem TS{n:Nat}{a:List Ah}{k:Int->List Ah->Option (List Ah)}:∀(m:Nat) (i:Int) (l:List Ah),KA n a k m i l=Rn a (VC n) k m i l
 |0,_,_=>rfl
 |m+1,i,l=>by simp only [KA.eq_2,Is,Option.bind_some,TS (n:=n) (a:=a) (k:=k) m]
theorem iF{n:Nat}{a:List Ah}(h:(fun xs=>xs.length<=1048576∧∀x∈xs,JP x) a)(hn:1048577<=n):ZA n a=some a:=by
 rw [ZA,Ds h.1 (by omega),Option.bind_some,TS (n:=n)]
 exact GN (fun x hx=>tN (h.2 x hx) hn) h.1 hn
theorem lS{n:Nat}{a:AX}(h:Eo a)(hn:1048577<=n):VH n a=some a:=by
 rw [VH];simp only [iW (h.2.2.1) hn,iF (h.2.2.2.1) hn,Eg (h.2.2.2.2.1) hn,Option.bind_some]
theorem QI{n:Nat}{a:List AX}{k:Int->List AX->Option (List AX)}:∀(m:Nat) (i:Int) (l:List AX),Jx n a k m i l=Rn a (VH n) k m i l
 |0,_,_=>rfl
 |m+1,i,l=>by simp only [Jx.eq_2,Is,Option.bind_some,QI (n:=n) (a:=a) (k:=k) m]
theorem aR{n:Nat}{a:List AX}(h:(fun xs=>xs.length<=1048576∧∀x∈xs,Eo x) a)(hn:1048577<=n):Zj n a=some a:=by
 rw [Zj,Ds h.1 (by omega),Option.bind_some,QI (n:=n)]
 exact GN (fun x hx=>lS (h.2 x hx) hn) h.1 hn
theorem Uz{n:Nat}{a:Ab}(h:Hj a)(hn:1048577<=n):Xe n a=some a:=by
 rw [Xe];simp only [aR (h) hn,Option.bind_some]
theorem SF{n:Nat}{a:AO}(h:DY a)(hn:1048577<=n):US n a=some a:=by
 rw [US];simp only [Eg (h.2.2) hn,Option.bind_some]
theorem Lu{n:Nat}{a:List AO}{k:Int->List AO->Option (List AO)}:∀(m:Nat) (i:Int) (l:List AO),KC n a k m i l=Rn a (US n) k m i l
 |0,_,_=>rfl
 |m+1,i,l=>by simp only [KC.eq_2,Is,Option.bind_some,Lu (n:=n) (a:=a) (k:=k) m]
theorem Qd{n:Nat}{a:List AO}(h:(fun xs=>xs.length<=1048576∧∀x∈xs,DY x) a)(hn:1048577<=n):Vt n a=some a:=by
 rw [Vt,Ds h.1 (by omega),Option.bind_some,Lu (n:=n)]
 exact GN (fun x hx=>SF (h.2 x hx) hn) h.1 hn
theorem NS{n:Nat}{a:List ByteArray}{k:Int->List ByteArray->Option (List ByteArray)}:∀(m:Nat) (i:Int) (l:List ByteArray),KK a k m i l=Rn a (some) k m i l
 |0,_,_=>rfl
 |m+1,i,l=>by simp only [KK.eq_2,Is,Option.bind_some,NS (n:=n) (a:=a) (k:=k) m]
theorem UG{n:Nat}{a:List ByteArray}(h:(fun xs=>xs.length<=1048576∧∀x∈xs,(fun s=>s.size<=1048576) x) a)(hn:1048577<=n):Xv n a=some a:=by
 rw [Xv,Ds h.1 (by omega),Option.bind_some,NS (n:=n)]
 exact GN (fun x hx=>z) h.1 hn
theorem iJ{n:Nat}{a:BG}(h:GX a)(hn:1048577<=n):Xb n a=some a:=by
 rfl
theorem QH{n:Nat}{a:List BG}{k:Int->List BG->Option (List BG)}:∀(m:Nat) (i:Int) (l:List BG),KP n a k m i l=Rn a (Xb n) k m i l
 |0,_,_=>rfl
 |m+1,i,l=>by simp only [KP.eq_2,Is,Option.bind_some,QH (n:=n) (a:=a) (k:=k) m]
theorem aK{n:Nat}{a:List BG}(h:(fun xs=>xs.length<=1048576∧∀x∈xs,GX x) a)(hn:1048577<=n):Xu n a=some a:=by
 rw [Xu,Ds h.1 (by omega),Option.bind_some,QH (n:=n)]
 exact GN (fun x hx=>iJ (h.2 x hx) hn) h.1 hn
theorem Vz{n:Nat}{a:AP}(h:KN a)(hn:1048577<=n):WG n a=some a:=by
 rw [WG];simp only [Qd (h.1) hn,UG (h.2.1) hn,aK (h.2.2) hn,Option.bind_some]
theorem jV{n:Nat}{a:Ar}(h:Gu a)(hn:1048577<=n):UY n a=some a:=by
 rw [UY];simp only [Eg (h.1) hn,Eg (h.2.1) hn,Eg (h.2.2.1) hn,Eg (h.2.2.2) hn,Option.bind_some]
theorem QF{n:Nat}{a:List Ar}{k:Int->List Ar->Option (List Ar)}:∀(m:Nat) (i:Int) (l:List Ar),Ju n a k m i l=Rn a (UY n) k m i l
 |0,_,_=>rfl
 |m+1,i,l=>by simp only [Ju.eq_2,Is,Option.bind_some,QF (n:=n) (a:=a) (k:=k) m]
theorem cM{n:Nat}{a:List Ar}(h:(fun xs=>xs.length<=1048576∧∀x∈xs,Gu x) a)(hn:1048577<=n):Xp n a=some a:=by
 rw [Xp,Ds h.1 (by omega),Option.bind_some,QF (n:=n)]
 exact GN (fun x hx=>jV (h.2 x hx) hn) h.1 hn
theorem dS{n:Nat}{a:AQ}(h:HU a)(hn:1048577<=n):Pr n a=some a:=by
 rw [Pr];simp only [Uz (h.1) hn,Vz (h.2.1) hn,cM (h.2.2) hn,Option.bind_some]
theorem QY{n:Nat}{a:List Bool}{k:Int->List Bool->Option (List Bool)}:∀(m:Nat) (i:Int) (l:List Bool),KI a k m i l=Rn a (some) k m i l
 |0,_,_=>rfl
 |m+1,i,l=>by simp only [KI.eq_2,Is,Option.bind_some,QY (n:=n) (a:=a) (k:=k) m]
theorem aV{n:Nat}{a:List Bool}(h:(fun xs=>xs.length<=1048576∧∀x∈xs,(fun _=>True) x) a)(hn:1048577<=n):Zq n a=some a:=by
 rw [Zq,Ds h.1 (by omega),Option.bind_some,QY (n:=n)]
 exact GN (fun x hx=>z) h.1 hn
theorem mO{n:Nat}{a:AV}(h:Ga a)(hn:1048577<=n):WB n a=some a:=by
 rfl
theorem Qq{n:Nat}{a:List AV}{k:Int->List AV->Option (List AV)}:∀(m:Nat) (i:Int) (l:List AV),KO n a k m i l=Rn a (WB n) k m i l
 |0,_,_=>rfl
 |m+1,i,l=>by simp only [KO.eq_2,Is,Option.bind_some,Qq (n:=n) (a:=a) (k:=k) m]
theorem Ti{n:Nat}{a:List AV}(h:(fun xs=>xs.length<=1048576∧∀x∈xs,Ga x) a)(hn:1048577<=n):Uo n a=some a:=by
 rw [Uo,Ds h.1 (by omega),Option.bind_some,Qq (n:=n)]
 exact GN (fun x hx=>mO (h.2 x hx) hn) h.1 hn
theorem Xo{n:Nat}{a:Ac}(h:Jt a)(hn:1048577<=n):Qu n a=some a:=by
 rw [Qu];simp only [aV (h.1) hn,Ti (h.2.1) hn,Ti (h.2.2) hn,Option.bind_some]
theorem Yf{n:Nat}{a:AV}(h:Ga a)(hn:1048577<=n):RI n a a=some true:=by
 simp [RI]
theorem ZJ{n:Nat}{a:AG}(h:MH a)(hn:1048577<=n):Rt n a a=some true:=by
 simp [Rt,Yf (h.2) hn]
theorem Nv{n:Nat}{a b:List AG}{k:Int->Option Bool}:∀(m:Nat) (i:Int),KT n a b k m i=Rk a b (Rt n) (some false) k m i
 |0,_=>rfl
 |m+1,i=>by simp only [KT.eq_2,HX,Option.bind_some,bne,Nv (n:=n) (a:=a) (b:=b) (k:=k) m]
theorem UD{n:Nat}{a:List AG}(h:(fun xs=>xs.length<=1048576∧∀x∈xs,MH x) a)(hn:1048577<=n):SC n a a=some true:=by
 rw [SC,Nv (n:=n)]
 have:=DR (f:=Rt n) (no:=some false) (k:=fun(i:Int)=>some true) (fun x hx=>ZJ (h.2 x hx) hn) h.1 n 0 (by omega) (by omega)
 simpa using this
theorem Ox{n:Nat}{a b:List Int}{k:Int->Option Bool}:∀(m:Nat) (i:Int),MD a b k m i=Rk a b ((fun x y=>some (x==y))) (some false) k m i
 |0,_=>rfl
 |m+1,i=>by simp only [MD.eq_2,HX,Option.bind_some,bne,Ox (n:=n) (a:=a) (b:=b) (k:=k) m]
theorem El{n:Nat}{a:List Int}(h:(fun xs=>xs.length<=1048576∧∀x∈xs,(fun _=>True) x) a)(hn:1048577<=n):UL n a a=some true:=by
 rw [UL,Ox (n:=n)]
 have:=DR (f:=(fun x y=>some (x==y))) (no:=some false) (k:=fun(i:Int)=>some true) (fun x hx=>by simp) h.1 n 0 (by omega) (by omega)
 simpa using this
theorem pV{n:Nat}{a:BD}(h:JG a)(hn:1048577<=n):Rz n a a=some true:=by
 simp [Rz]
theorem Tw{n:Nat}{a b:List BD}{k:Int->Option Bool}:∀(m:Nat) (i:Int),Jp n a b k m i=Rk a b (Rz n) (some false) k m i
 |0,_=>rfl
 |m+1,i=>by simp only [Jp.eq_2,HX,Option.bind_some,bne,Tw (n:=n) (a:=a) (b:=b) (k:=k) m]
theorem kN{n:Nat}{a:List BD}(h:(fun xs=>xs.length<=1048576∧∀x∈xs,JG x) a)(hn:1048577<=n):Yr n a a=some true:=by
 rw [Yr,Tw (n:=n)]
 have:=DR (f:=Rz n) (no:=some false) (k:=fun(i:Int)=>some true) (fun x hx=>pV (h.2 x hx) hn) h.1 n 0 (by omega) (by omega)
 simpa using this
theorem eI{n:Nat}{a:AS}(h:DT a)(hn:1048577<=n):Su n a a=some true:=by
 simp [Su,El (h.1) hn,El (h.2.1) hn,El (h.2.2) hn]
theorem OY{n:Nat}{a b:List AS}{k:Int->Option Bool}:∀(m:Nat) (i:Int),Jw n a b k m i=Rk a b (Su n) (some false) k m i
 |0,_=>rfl
 |m+1,i=>by simp only [Jw.eq_2,HX,Option.bind_some,bne,OY (n:=n) (a:=a) (b:=b) (k:=k) m]
theorem RQ{n:Nat}{a:List AS}(h:(fun xs=>xs.length<=1048576∧∀x∈xs,DT x) a)(hn:1048577<=n):VF n a a=some true:=by
 rw [VF,OY (n:=n)]
 have:=DR (f:=Su n) (no:=some false) (k:=fun(i:Int)=>some true) (fun x hx=>eI (h.2 x hx) hn) h.1 n 0 (by omega) (by omega)
 simpa using this
theorem qQ{n:Nat}{a:Ah}(h:JP a)(hn:1048577<=n):SP n a a=some true:=by
 simp [SP,RQ (h.2.2.2.2.1) hn,RQ (h.2.2.2.2.2) hn]
theorem Tj{n:Nat}{a b:List Ah}{k:Int->Option Bool}:∀(m:Nat) (i:Int),KS n a b k m i=Rk a b (SP n) (some false) k m i
 |0,_=>rfl
 |m+1,i=>by simp only [KS.eq_2,HX,Option.bind_some,bne,Tj (n:=n) (a:=a) (b:=b) (k:=k) m]
theorem mR{n:Nat}{a:List Ah}(h:(fun xs=>xs.length<=1048576∧∀x∈xs,JP x) a)(hn:1048577<=n):Zd n a a=some true:=by
 rw [Zd,Tj (n:=n)]
 have:=DR (f:=SP n) (no:=some false) (k:=fun(i:Int)=>some true) (fun x hx=>qQ (h.2 x hx) hn) h.1 n 0 (by omega) (by omega)
 simpa using this
theorem nF{n:Nat}{a:AX}(h:Eo a)(hn:1048577<=n):Sd n a a=some true:=by
 simp [Sd,kN (h.2.2.1) hn,mR (h.2.2.2.1) hn,El (h.2.2.2.2.1) hn]
theorem QG{n:Nat}{a b:List AX}{k:Int->Option Bool}:∀(m:Nat) (i:Int),Jy n a b k m i=Rk a b (Sd n) (some false) k m i
 |0,_=>rfl
 |m+1,i=>by simp only [Jy.eq_2,HX,Option.bind_some,bne,QG (n:=n) (a:=a) (b:=b) (k:=k) m]
theorem aP{n:Nat}{a:List AX}(h:(fun xs=>xs.length<=1048576∧∀x∈xs,Eo x) a)(hn:1048577<=n):XT n a a=some true:=by
 rw [XT,QG (n:=n)]
 have:=DR (f:=Sd n) (no:=some false) (k:=fun(i:Int)=>some true) (fun x hx=>nF (h.2 x hx) hn) h.1 n 0 (by omega) (by omega)
 simpa using this
theorem UT{n:Nat}{a:Ab}(h:Hj a)(hn:1048577<=n):Wi n a a=some true:=by
 simp [Wi,aP (h) hn]
theorem Se{n:Nat}{a:AO}(h:DY a)(hn:1048577<=n):Rx n a a=some true:=by
 simp [Rx,El (h.2.2) hn]
theorem Lb{n:Nat}{a b:List AO}{k:Int->Option Bool}:∀(m:Nat) (i:Int),KQ n a b k m i=Rk a b (Rx n) (some false) k m i
 |0,_=>rfl
 |m+1,i=>by simp only [KQ.eq_2,HX,Option.bind_some,bne,Lb (n:=n) (a:=a) (b:=b) (k:=k) m]
theorem Qo{n:Nat}{a:List AO}(h:(fun xs=>xs.length<=1048576∧∀x∈xs,DY x) a)(hn:1048577<=n):XC n a a=some true:=by
 rw [XC,Lb (n:=n)]
 have:=DR (f:=Rx n) (no:=some false) (k:=fun(i:Int)=>some true) (fun x hx=>Se (h.2 x hx) hn) h.1 n 0 (by omega) (by omega)
 simpa using this
theorem Nr{n:Nat}{a b:List ByteArray}{k:Int->Option Bool}:∀(m:Nat) (i:Int),Jr a b k m i=Rk a b ((fun x y=>some (x.toList==y.toList))) (some false) k m i
 |0,_=>rfl
 |m+1,i=>by simp only [Jr.eq_2,HX,Option.bind_some,bne,Nr (n:=n) (a:=a) (b:=b) (k:=k) m]
theorem VM{n:Nat}{a:List ByteArray}(h:(fun xs=>xs.length<=1048576∧∀x∈xs,(fun s=>s.size<=1048576) x) a)(hn:1048577<=n):Xh n a a=some true:=by
 rw [Xh,Nr (n:=n)]
 have:=DR (f:=(fun x y=>some (x.toList==y.toList))) (no:=some false) (k:=fun(i:Int)=>some true) (fun x hx=>by simp) h.1 n 0 (by omega) (by omega)
 simpa using this
theorem gR{n:Nat}{a:BG}(h:GX a)(hn:1048577<=n):TD n a a=some true:=by
 simp [TD]
theorem QE{n:Nat}{a b:List BG}{k:Int->Option Bool}:∀(m:Nat) (i:Int),KB n a b k m i=Rk a b (TD n) (some false) k m i
 |0,_=>rfl
 |m+1,i=>by simp only [KB.eq_2,HX,Option.bind_some,bne,QE (n:=n) (a:=a) (b:=b) (k:=k) m]
theorem bV{n:Nat}{a:List BG}(h:(fun xs=>xs.length<=1048576∧∀x∈xs,GX x) a)(hn:1048577<=n):Wy n a a=some true:=by
 rw [Wy,QE (n:=n)]
 have:=DR (f:=TD n) (no:=some false) (k:=fun(i:Int)=>some true) (fun x hx=>gR (h.2 x hx) hn) h.1 n 0 (by omega) (by omega)
 simpa using this
theorem Zb{n:Nat}{a:AP}(h:KN a)(hn:1048577<=n):WN n a a=some true:=by
 simp [WN,Qo (h.1) hn,VM (h.2.1) hn,bV (h.2.2) hn]
theorem nG{n:Nat}{a:Ar}(h:Gu a)(hn:1048577<=n):SL n a a=some true:=by
 simp [SL,El (h.1) hn,El (h.2.1) hn,El (h.2.2.1) hn,El (h.2.2.2) hn]
theorem RA{n:Nat}{a b:List Ar}{k:Int->Option Bool}:∀(m:Nat) (i:Int),KR n a b k m i=Rk a b (SL n) (some false) k m i
 |0,_=>rfl
 |m+1,i=>by simp only [KR.eq_2,HX,Option.bind_some,bne,RA (n:=n) (a:=a) (b:=b) (k:=k) m]
theorem aU{n:Nat}{a:List Ar}(h:(fun xs=>xs.length<=1048576∧∀x∈xs,Gu x) a)(hn:1048577<=n):Wu n a a=some true:=by
 rw [Wu,RA (n:=n)]
 have:=DR (f:=SL n) (no:=some false) (k:=fun(i:Int)=>some true) (fun x hx=>nG (h.2 x hx) hn) h.1 n 0 (by omega) (by omega)
 simpa using this
theorem bJ{n:Nat}{a:AQ}(h:HU a)(hn:1048577<=n):ZY n a a=some true:=by
 simp [ZY,UT (h.1) hn,Zb (h.2.1) hn,aU (h.2.2) hn]
theorem RZ{n:Nat}{a b:List Bool}{k:Int->Option Bool}:∀(m:Nat) (i:Int),KJ a b k m i=Rk a b ((fun x y=>some (x==y))) (some false) k m i
 |0,_=>rfl
 |m+1,i=>by simp only [KJ.eq_2,HX,Option.bind_some,bne,RZ (n:=n) (a:=a) (b:=b) (k:=k) m]
theorem dM{n:Nat}{a:List Bool}(h:(fun xs=>xs.length<=1048576∧∀x∈xs,(fun _=>True) x) a)(hn:1048577<=n):WM n a a=some true:=by
 rw [WM,RZ (n:=n)]
 have:=DR (f:=(fun x y=>some (x==y))) (no:=some false) (k:=fun(i:Int)=>some true) (fun x hx=>by simp) h.1 n 0 (by omega) (by omega)
 simpa using this
theorem QQ{n:Nat}{a b:List AV}{k:Int->Option Bool}:∀(m:Nat) (i:Int),KG n a b k m i=Rk a b (RI n) (some false) k m i
 |0,_=>rfl
 |m+1,i=>by simp only [KG.eq_2,HX,Option.bind_some,bne,QQ (n:=n) (a:=a) (b:=b) (k:=k) m]
theorem TY{n:Nat}{a:List AV}(h:(fun xs=>xs.length<=1048576∧∀x∈xs,Ga x) a)(hn:1048577<=n):Uy n a a=some true:=by
 rw [Uy,QQ (n:=n)]
 have:=DR (f:=RI n) (no:=some false) (k:=fun(i:Int)=>some true) (fun x hx=>Yf (h.2 x hx) hn) h.1 n 0 (by omega) (by omega)
 simpa using this
theorem YS{n:Nat}{a:Ac}(h:Jt a)(hn:1048577<=n):Yn n a a=some true:=by
 simp [Yn,dM (h.1) hn,TY (h.2.1) hn,TY (h.2.2) hn]
theorem MT{n:Nat}{k:Int}(h0:0<=k)(hk:k<=4611686018427387904)(hn:1048577<=n):∃t,bG n k=some t:=by
 rw [bG]
 by_cases h:k<=0
 ·rw [decide_eq_true h];exact⟨_,z⟩
 rw [decide_eq_false h,cond_false]
 have:∀(j m:Nat) (k:Int) (t:ByteArray),0<=k->k<(10:Int)^j->k<=4611686018427387904->j<m->t.size+j<=1000->∃r,Kp (fun i5 t6=>(Option.bind (Sw ((ByteArray.mk #[109])) t6) fun t7=>(some t7))) m k t=some r:=by
  intro j
  induction j with
  |zero=>
   intro m k t k0 k1 k2 hm ht
   obtain⟨m,rfl⟩:∃q,m=q+1:=⟨m-1,by omega⟩
   rw [Kp.eq_2,decide_eq_false (by simp at k1;omega),cond_false,PM (by show 1+t.size<=_;omega)]
   exact⟨_,z⟩
  |succ j ih=>
   intro m k t k0 k1 k2 hm ht
   obtain⟨m,rfl⟩:∃q,m=q+1:=⟨m-1,by omega⟩
   rw [Kp.eq_2]
   by_cases h:k>0
   ·rw [decide_eq_true h,cond_true,PM (by rw [Ow];simp;omega),Option.bind_some]
    have e:wrap .i64 (Int.tdiv k 10)=k/10:=by rw [Int.tdiv_eq_ediv_of_nonneg k0];exact Aa (by omega) (by omega)
    rw [e]
    refine ih m (k/10) _ (by omega) ?_ (by omega) (by omega) (by rw [ByteArray.size_append,Ow];simp;omega)
    rw [Int.pow_succ]at k1;omega
   ·rw [decide_eq_false h,cond_false,PM (by show 1+t.size<=_;omega)]
    exact⟨_,z⟩
 exact this 19 n k _ h0 (by omega) hk (by omega) (by decide)
theorem dJ{n:Nat}{a:List Bool}{k:Int}(h:a.length<=1048576)(h0:0<=k)(hk:k<=1152921504606846976)(hn:1048577<=n):∃r,Wk n a k=some r∧k<=r.1∧r.1<=k+67108864:=by
 have⟨b,h1,h2,h3⟩:=Tl (LM:=fun m k i l=>Hn (fun i8 i9 l10=>(some (i8,l10))) m k i l) 1 (fun k x=>(Int.tmod (k) 3==0)) (by omega) (fun m k i l hi hi2 k0 k1=>by
  rw [show k+((1:Nat):Int)=k+1 by omega]
  simp only [Hn.eq_2,Mf hi,cond_true,Dh hi,MM hi,Option.bind_some,Int.toNat_natCast,List.set_set,VK hi2,Aa (x:=k+1) (by omega) (by omega)]) (fun m k l=>by simp only [Hn.eq_2,Ml,cond_false]) h h0 hk n 0 a (by omega) (by omega) z (fun j _ hj=>by omega)
 refine⟨(k+((1:Nat):Int)*a.length,b),by rw [Wk];simpa using h1,by dsimp only;omega,by dsimp only;omega⟩
theorem UA{n:Nat}{a:List AV}{k:Int}(h:a.length<=1048576)(h0:0<=k)(hk:k<=1152921504606846976)(hn:1048577<=n):∃r,UQ n a k=some r∧k<=r.1∧r.1<=k+67108864:=by
 have⟨b,h1,h2,h3⟩:=Tl (LM:=fun m k i l=>Hh (fun i8 i9 l10=>(some (i8,l10))) m k i l) 2 (fun k x=>(AV.mk (k) (k+1))) (by omega) (fun m k i l hi hi2 k0 k1=>by
  rw [show k+((2:Nat):Int)=k+1+1 by omega]
  simp only [Hh.eq_2,Mf hi,cond_true,Dh hi,MM hi,Option.bind_some,Int.toNat_natCast,List.set_set,VK hi2,Aa (x:=k+1) (by omega) (by omega),Aa (x:=k+1+1) (by omega) (by omega)]) (fun m k l=>by simp only [Hh.eq_2,Ml,cond_false]) h h0 hk n 0 a (by omega) (by omega) z (fun j _ hj=>by omega)
 refine⟨(k+((2:Nat):Int)*a.length,b),by rw [UQ];simpa using h1,by dsimp only;omega,by dsimp only;omega⟩
theorem Zp{n:Nat}{a:Ac}{k:Int}(h:Jt a)(h0:0<=k)(hk:k<=1152921000000000000)(hn:1048577<=n):∃r,Ww n a k=some r∧k<=r.1∧r.1<=k+201326592:=by
 have⟨r0,e0,l0,u0⟩:=dJ (n:=n) (k:=k) h.1.1 (by omega) (by omega) hn
 have⟨r1,e1,l1,u1⟩:=UA (n:=n) (k:=r0.1) h.2.1.1 (by omega) (by omega) hn
 have⟨r2,e2,l2,u2⟩:=UA (n:=n) (k:=r1.1) h.2.2.1 (by omega) (by omega) hn
 refine⟨(r2.1,r0.2,r1.2,r2.2),by rw [Ww,e0,Option.bind_some,e1,Option.bind_some,e2,Option.bind_some],by dsimp only;omega,by dsimp only;omega⟩
theorem UE{n:Nat}{a:List AG}{k:Int}(h:a.length<=1048576)(h0:0<=k)(hk:k<=1152921504606846976)(hn:1048577<=n):∃r,Ze n a k=some r∧k<=r.1∧r.1<=k+67108864∧Ut n r.2 k=some r.1:=by
 have⟨b,h1,h2,h3⟩:=Tl (LM:=fun m k i l=>Ig (fun i8 i9 l10=>(some (i8,l10))) m k i l) 3 (fun k x=>(AG.mk (k) (AV.mk (k+1) (k+1+1)))) (by omega) (fun m k i l hi hi2 k0 k1=>by
  rw [show k+((3:Nat):Int)=k+1+1+1 by omega]
  simp only [Ig.eq_2,Mf hi,cond_true,Dh hi,MM hi,Option.bind_some,Int.toNat_natCast,List.set_set,VK hi2,Aa (x:=k+1) (by omega) (by omega),Aa (x:=k+1+1) (by omega) (by omega),Aa (x:=k+1+1+1) (by omega) (by omega)]) (fun m k l=>by simp only [Ig.eq_2,Ml,cond_false]) h h0 hk n 0 a (by omega) (by omega) z (fun j _ hj=>by omega)
 refine⟨(k+((3:Nat):Int)*a.length,b),by rw [Ze];simpa using h1,by dsimp only;omega,by dsimp only;omega,?_⟩
 have:=fO (LH:=fun m k i=>Hz b (fun i5 i6=>(some i5)) m k i) 3 (fun k (x:AG)=>(AG.mk (k) (AV.mk (k+1) (k+1+1)))) (by omega) (fun m k i hi x hx hi2 k0 k1=>by
  rw [show k+((3:Nat):Int)=k+1+1+1 by omega]
  simp only [Hz.eq_2,Mf hi,cond_true,Dh hi,hx,Option.bind_some,bne_self_eq_false,cond_false,VK hi2,Aa (x:=k+1) (by omega) (by omega),Aa (x:=k+1+1) (by omega) (by omega),Aa (x:=k+1+1+1) (by omega) (by omega)]) (fun m k=>by simp only [Hz.eq_2,Ml,cond_false]) (by omega) h0 hk h3 n 0 (by omega) (by omega)
 rw [h2]at this
 rw [Ut];simpa using this
theorem Xg:Rd prog 9 At (fun s=>s.size<=maxLen):=Rd.str Ri
theorem JA:Rd prog 2 (AL .i64) (Ki .i64):=Rd.int ud2
theorem qR:Rd prog 4 BH (fun _=>True):=Rd.bool sX
theorem mH:Rd prog 239 C_Pin Oz:=Rd.map (Rd.struct (fs:=[_,_,_,_]) uG (by kernel_rfl) (Fr.cons Xg rfl (by kernel_rfl) (Fr.cons JA rfl (by kernel_rfl) (Fr.cons JA rfl (by kernel_rfl) (Fr.one qR rfl (by kernel_rfl)))))) (fun(x:BD)=>(x.Name,x.Dir,x.Cap,x.Clock)) (fun p=>(⟨p.1,p.2.1,p.2.2.1,p.2.2.2⟩:BD)) (fun _=>rfl)
theorem gY:Rd prog 170 (Ci C_Pin) (fun xs=>xs.length<=9223372036854775807∧∀x∈xs,Oz x):=Rd.slice Nk (by kernel_rfl) rfl mH
theorem LW:Rd prog 85 (Ci (AL .i64)) (fun xs=>xs.length<=9223372036854775807∧∀x∈xs,(Ki .i64) x):=Rd.slice Af (by kernel_rfl) rfl JA
theorem jY:Rd prog 282 C_Table IY:=Rd.map (Rd.struct (fs:=[_,_,_]) qG (by kernel_rfl) (Fr.cons LW rfl (by kernel_rfl) (Fr.cons LW rfl (by kernel_rfl) (Fr.one LW rfl (by kernel_rfl))))) (fun(x:AS)=>(x.Slews,x.Loads,x.Values)) (fun p=>(⟨p.1,p.2.1,p.2.2⟩:AS)) (fun _=>rfl)
theorem Vd:Rd prog 241 (Ci C_Table) (fun xs=>xs.length<=9223372036854775807∧∀x∈xs,IY x):=Rd.slice OF (by kernel_rfl) rfl jY
theorem iL:Rd prog 243 C_Arc PA:=Rd.map (Rd.struct (fs:=[_,_,_,_,_,_]) pK (by kernel_rfl) (Fr.cons JA rfl (by kernel_rfl) (Fr.cons JA rfl (by kernel_rfl) (Fr.cons JA rfl (by kernel_rfl) (Fr.cons JA rfl (by kernel_rfl) (Fr.cons Vd rfl (by kernel_rfl) (Fr.one Vd rfl (by kernel_rfl)))))))) (fun(x:Ah)=>(x.Kind,x.From,x.To,x.Sense,x.Delay,x.Slew)) (fun p=>(⟨p.1,p.2.1,p.2.2.1,p.2.2.2.1,p.2.2.2.2.1,p.2.2.2.2.2⟩:Ah)) (fun _=>rfl)
theorem nY:Rd prog 171 (Ci C_Arc) (fun xs=>xs.length<=9223372036854775807∧∀x∈xs,PA x):=Rd.slice Np (by kernel_rfl) rfl iL
theorem nX:Rd prog 173 C_Cell MW:=Rd.map (Rd.struct (fs:=[_,_,_,_,_,_,_]) tP (by kernel_rfl) (Fr.cons Xg rfl (by kernel_rfl) (Fr.cons JA rfl (by kernel_rfl) (Fr.cons gY rfl (by kernel_rfl) (Fr.cons nY rfl (by kernel_rfl) (Fr.cons LW rfl (by kernel_rfl) (Fr.cons JA rfl (by kernel_rfl) (Fr.one JA rfl (by kernel_rfl))))))))) (fun(x:AX)=>(x.Name,x.Kind,x.Pins,x.Arcs,x.Truth,x.Leak,x.Energy)) (fun p=>(⟨p.1,p.2.1,p.2.2.1,p.2.2.2.1,p.2.2.2.2.1,p.2.2.2.2.2.1,p.2.2.2.2.2.2⟩:AX)) (fun _=>rfl)
theorem tT:Rd prog 22 (Ci C_Cell) (fun xs=>xs.length<=9223372036854775807∧∀x∈xs,MW x):=Rd.slice Rv (by kernel_rfl) rfl nX
theorem sM:Rd prog 24 MJ KU:=Rd.map (Rd.struct (fs:=[_]) zO (by kernel_rfl) (Fr.one tT rfl (by kernel_rfl))) (fun(x:Ab)=>x.Cells) (fun p=>(⟨p⟩:Ab)) (fun _=>rfl)
theorem nI:Rd prog 175 C_Instance FM:=Rd.map (Rd.struct (fs:=[_,_,_]) tH (by kernel_rfl) (Fr.cons Xg rfl (by kernel_rfl) (Fr.cons JA rfl (by kernel_rfl) (Fr.one LW rfl (by kernel_rfl))))) (fun(x:AO)=>(x.Name,x.Cell,x.Nets)) (fun p=>(⟨p.1,p.2.1,p.2.2⟩:AO)) (fun _=>rfl)
theorem qL:Rd prog 25 (Ci C_Instance) (fun xs=>xs.length<=9223372036854775807∧∀x∈xs,FM x):=Rd.slice St (by kernel_rfl) rfl nI
theorem oM:Rd prog 26 (Ci At) (fun xs=>xs.length<=9223372036854775807∧∀x∈xs,(fun s=>s.size<=maxLen) x):=Rd.slice Cj (by kernel_rfl) rfl Xg
theorem kH:Rd prog 178 C_Port ML:=Rd.map (Rd.struct (fs:=[_,_,_]) pP (by kernel_rfl) (Fr.cons Xg rfl (by kernel_rfl) (Fr.cons JA rfl (by kernel_rfl) (Fr.one JA rfl (by kernel_rfl))))) (fun(x:BG)=>(x.Name,x.Dir,x.Net)) (fun p=>(⟨p.1,p.2.1,p.2.2⟩:BG)) (fun _=>rfl)
theorem pG:Rd prog 27 (Ci C_Port) (fun xs=>xs.length<=9223372036854775807∧∀x∈xs,ML x):=Rd.slice TC (by kernel_rfl) rfl kH
theorem tF:Rd prog 29 Nf Ld:=Rd.map (Rd.struct (fs:=[_,_,_]) zY (by kernel_rfl) (Fr.cons qL rfl (by kernel_rfl) (Fr.cons oM rfl (by kernel_rfl) (Fr.one pG rfl (by kernel_rfl))))) (fun(x:AP)=>(x.Instances,x.Nets,x.Ports)) (fun p=>(⟨p.1,p.2.1,p.2.2⟩:AP)) (fun _=>rfl)
theorem gU:Rd prog 118 C_Wire MG:=Rd.map (Rd.struct (fs:=[_,_,_,_]) pT (by kernel_rfl) (Fr.cons LW rfl (by kernel_rfl) (Fr.cons LW rfl (by kernel_rfl) (Fr.cons LW rfl (by kernel_rfl) (Fr.one LW rfl (by kernel_rfl)))))) (fun(x:Ar)=>(x.Parent,x.Res,x.Cap,x.Sink)) (fun p=>(⟨p.1,p.2.1,p.2.2.1,p.2.2.2⟩:Ar)) (fun _=>rfl)
theorem rU:Rd prog 30 (Ci C_Wire) (fun xs=>xs.length<=9223372036854775807∧∀x∈xs,MG x):=Rd.slice SZ (by kernel_rfl) rfl gU
theorem AcT:Rd prog 32 C_Block Mq:=Rd.map (Rd.struct (fs:=[_,_,_]) AcB (by kernel_rfl) (Fr.cons sM rfl (by kernel_rfl) (Fr.cons tF rfl (by kernel_rfl) (Fr.one rU rfl (by kernel_rfl))))) (fun(x:AQ)=>(x.Library,x.Design,x.Wires)) (fun p=>(⟨p.1,p.2.1,p.2.2⟩:AQ)) (fun _=>rfl)
theorem pN:Rd prog 33 (Ci BH) (fun xs=>xs.length<=9223372036854775807∧∀x∈xs,(fun _=>True) x):=Rd.slice GA (by kernel_rfl) rfl qR
theorem kP:Rd prog 143 C_Span Nz:=Rd.map (Rd.struct (fs:=[_,_]) sV (by kernel_rfl) (Fr.cons JA rfl (by kernel_rfl) (Fr.one JA rfl (by kernel_rfl)))) (fun(x:AV)=>(x.Early,x.Late)) (fun p=>(⟨p.1,p.2⟩:AV)) (fun _=>rfl)
theorem gD:Rd prog 34 (Ci C_Span) (fun xs=>xs.length<=9223372036854775807∧∀x∈xs,Nz x):=Rd.slice WK (by kernel_rfl) rfl kP
theorem AcS:Rd prog 36 C_Timing NH:=Rd.map (Rd.struct (fs:=[_,_,_]) yZ (by kernel_rfl) (Fr.cons pN rfl (by kernel_rfl) (Fr.cons gD rfl (by kernel_rfl) (Fr.one gD rfl (by kernel_rfl))))) (fun(x:Ac)=>(x.Reached,x.Arrival,x.Slew)) (fun p=>(⟨p.1,p.2.1,p.2.2⟩:Ac)) (fun _=>rfl)
theorem AcU:Rd prog 38 C_Relation Na:=Rd.map (Rd.struct (fs:=[_,_,_]) yT (by kernel_rfl) (Fr.cons JA rfl (by kernel_rfl) (Fr.cons JA rfl (by kernel_rfl) (Fr.one JA rfl (by kernel_rfl))))) (fun(x:Aj)=>(x.Setup,x.Hold,x.Uncertainty)) (fun p=>(⟨p.1,p.2.1,p.2.2⟩:Aj)) (fun _=>rfl)
end Go.Proofs.YtjpcjanfamdmiaaGreatDoor
