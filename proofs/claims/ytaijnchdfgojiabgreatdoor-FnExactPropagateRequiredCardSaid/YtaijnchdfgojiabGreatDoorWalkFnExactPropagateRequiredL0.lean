/- The walks: every function that FnExactPropagateRequired reaches computes the plain function that is typed beside it; no condition. -/
import Derived.Test.YtaijnchdfgojiabGreatDoorWalkFnExactPropagateRequiredB0
set_option linter.all false
set_option maxRecDepth 20000
set_option maxHeartbeats 40000000
namespace Go.Proofs.YtaijnchdfgojiabGreatDoor
open Go Go.RowKit Go.Eng Go.Proofs.Tryz
open Go.IntKind (wrap)
variable {n H:Nat} {w:World}
def Uz(n:Nat)(a0:List Int)(a1:Int):Option Int:=cond (decide (wrap .i64 (a1-((a0.length:Int)))<0)) (some (-1)) (some (wrap .i64 (a1-((a0.length:Int)))))
theorem mZ{c:List Int}{d e:Int}{f:Value}(a:Uz n c d=some e)(h:H<=w.heap.size)(g:AS (AI .i64) w H c f):
 Calls prog 110 [f,.i d].toArray w (An (.i e) w):=by
 have b:=AH.refl w;unfold Uz at a;refine AA func110 z ntmps110 (Rc 9 (Yl z (CB z Ac (g.oj b)) (Ro 11 (Wt a b ?_))));intro a;exact Iw a b
def Tx(n:Nat)(a0:BQ)(a1:Int):Option Int:=cond (decide (wrap .i64 (a1-((a0.Name.size:Int)))<0)) (some (-1)) (some (wrap .i64 (a1-((a0.Name.size:Int)))))
theorem AhD{a:BQ}{d e:Int}(b:Tx n a d=some e):
 Calls prog 196 [.agg #[.string a.Name,.i a.Dir,.i a.Cap,.bool a.Clock],.i d].toArray w (An (.i e) w):=by
 unfold Tx at b;refine AA func196 z ntmps196 (Rc 2 (Ef z (AF z z) ?_));rintro _ g ⟨h,rfl,i,H,c,f⟩;have j:=c.size;refine Ro 6 (Fl UH Dy f (Yl z (FF z SK z) (Ro 11 (Wt b c ?_))));intro b;exact Iw b c
def GX(n:Nat)(a0:List BQ)(k0:Int->Int->Option Int):Nat->Int->Int->Option Int
 |0,_,_=>none
 |m+1,c,b=>cond (decide (b<(a0.length:Int))) ((AE a0 b).bind fun d=>(Tx n d c).bind fun a=>cond (decide (a<0)) (some (-1)) (GX n a0 k0 m a (wrap .i64 (b+1)))) (k0 c b)
def VU(n:Nat)(a0:List BQ)(a1:Int):Option Int:=cond (decide (wrap .i64 (a1-((a0.length:Int)))<0)) (some (-1)) (GX n a0 (fun a b=>some a) n (wrap .i64 (a1-((a0.length:Int)))) 0)
theorem AlB{g:List BQ}{j k:Int}{l:Value}(a:VU n g j=some k)(u:H<=w.heap.size)(m:AS C_Pin w H g l):
 Calls prog 157 [l,.i j].toArray w (An (.i k) w):=by
 have o:=AH.refl w;unfold VU at a;refine AA func157 z ntmps157 (Rc 9 (Yl z (CB z PQ (m.oj o)) (Ro 11 (Wt a o ?_))));intro a;refine Rc 9 (WC.loopD (fun c h wl=>∃d e:Int,Kn 27 [(0,l),(1,.i d),(5,.i e)] h∧AH w wl∧GX n g (fun d e=>(some d)) c d e=some k) n ?_ ?_)
 ·intro h f;exact⟨(wrap .i64 (j-((g.length:Int)))),0,f.sub z,AH.refl _,a⟩
 ·rintro c h v ⟨d,e,f,b,a⟩;refine Bp f ?_;rcases c with _|c;exact Bm a;rw [GX.eq_2]at a;have x:=b.size;refine Rc 5 (Yl z (CB z PQ (m.oj b)) (Ro 3 (Wf a b ?_)));intro a;refine Rc 8 (Ix a (m.oj b) PQ RB ?_);rintro i y a _ ⟨A,B,C,rfl,D,p,q⟩;obtain rfl:=Bk p;refine Yl z (CQ (us:=[.string i.Name,.i i.Dir,.i i.Cap,.bool i.Clock]) z cJ q RB) (Ro 1 ?_);refine Cs a b qT (fun _=>AhD) ?_;rintro r a E s ⟨t,F⟩;refine Ro 9 (Wt a t ?_);intro a;refine Rc 9 ?_;intro h f;exact⟨c,nr,r,(wrap .i64 (e+1)),f.sub z,(AH.trans b s),a⟩
def UB(n:Nat)(a0:Ab)(a1:Int):Option Int:=(Uz n a0.Slews a1).bind fun c=>cond (decide (c<0)) (some (-1)) ((Uz n a0.Loads c).bind fun b=>cond (decide (b<0)) (some (-1)) ((Uz n a0.Values b).bind fun a=>cond (decide (a<0)) (some (-1)) (some a)))
theorem AfF{d:Ab}{h i:Int}{j k l:Value}(a:UB n d h=some i)(t:H<=w.heap.size)(o:AS (AI .i64) w H d.Slews j)(p:AS (AI .i64) w H d.Loads k)(q:AS (AI .i64) w H d.Values l):
 Calls prog 247 [.agg #[j,k,l],.i h].toArray w (An (.i i) w):=by
 unfold UB at a;refine AA func247 z ntmps247 (Rc 2 (Ef z (AF z z) ?_));rintro _ u ⟨v,rfl,x,y,e,b⟩;have A:=e.size;refine Ro 5 (Fl Tm Ah b (Ro 1 ?_));refine Cs a e JJ (fun _ c=>(mZ c (by omega) (o.oj e):)) ?_;rintro B a C r ⟨f,D⟩;have b:=b.ext r;refine Ro 10 (Wt a f ?_);intro a;refine Rc 4 (Fl SJ Ah b (Ro 1 ?_));refine Cs a f JJ (fun _ c=>(mZ c (by omega) (p.oj f):)) ?_;rintro E a F s ⟨g,G⟩;have b:=b.ext s;refine Ro 10 (Wt a g ?_);intro a;refine Rc 4 (Fl UA Ah b (Ro 1 ?_));refine Cs a g JJ (fun _ c=>(mZ c (by omega) (q.oj g):)) ?_;rintro I a J K ⟨m,L⟩;refine Ro 10 (Wt a m ?_);intro a;exact Iw a m
def GW(n:Nat)(a0:List Ab)(k0:Int->Int->Option Int):Nat->Int->Int->Option Int
 |0,_,_=>none
 |m+1,c,b=>cond (decide (b<(a0.length:Int))) ((AE a0 b).bind fun d=>(UB n d c).bind fun a=>cond (decide (a<0)) (some (-1)) (GW n a0 k0 m a (wrap .i64 (b+1)))) (k0 c b)
def Sm(n:Nat)(a0:List Ab)(a1:Int):Option Int:=cond (decide (wrap .i64 (a1-((a0.length:Int)))<0)) (some (-1)) (GW n a0 (fun a b=>some a) n (wrap .i64 (a1-((a0.length:Int)))) 0)
theorem yU{g:List Ab}{i j:Int}{k:Value}(a:Sm n g i=some j)(C:H<=w.heap.size)(l:AS C_Table w H g k):
 Calls prog 228 [k,.i i].toArray w (An (.i j) w):=by
 have m:=AH.refl w;unfold Sm at a;refine AA func228 z ntmps228 (Rc 9 (Yl z (CB z Pk (l.oj m)) (Ro 11 (Wt a m ?_))));intro a;refine Rc 9 (WC.loopD (fun c h wl=>∃d e:Int,Kn 27 [(0,k),(1,.i d),(5,.i e)] h∧AH w wl∧GW n g (fun d e=>(some d)) c d e=some j) n ?_ ?_)
 ·intro h f;exact⟨(wrap .i64 (i-((g.length:Int)))),0,f.sub z,AH.refl _,a⟩
 ·rintro c h D ⟨d,e,f,b,a⟩;refine Bp f ?_;rcases c with _|c;exact Bm a;rw [GW.eq_2]at a;have E:=b.size;refine Rc 5 (Yl z (CB z Pk (l.oj b)) (Ro 3 (Wf a b ?_)));intro a;refine Rc 8 (Ix a (l.oj b) Pk Rv ?_);rintro F G a _ ⟨I,J,K,rfl,L,o,p⟩;obtain⟨q,r,s,rfl,t,u,v⟩:=Ci o;refine Yl z (CQ (us:=[q,r,s]) z eY p Rv) (Ro 1 ?_);refine Cs a b qX (fun _ x=>(AfF x (by omega) t u v:)) ?_;rintro y a M A ⟨B,N⟩;refine Ro 9 (Wt a B ?_);intro a;refine Rc 9 ?_;intro h f;exact⟨c,nr,y,(wrap .i64 (e+1)),f.sub z,(AH.trans b A),a⟩
def Se(n:Nat)(a0:Aq)(a1:Int):Option Int:=(Sm n a0.Delay a1).bind fun b=>cond (decide (b<0)) (some (-1)) ((Sm n a0.Slew b).bind fun a=>cond (decide (a<0)) (some (-1)) (some a))
theorem AiY{b:Aq}{g h:Int}{i j:Value}(a:Se n b g=some h)(p:H<=w.heap.size)(l:AS C_Table w H b.Delay i)(m:AS C_Table w H b.Slew j):
 Calls prog 197 [.agg #[.i b.Kind,.i b.From,.i b.To,.i b.Sense,i,j],.i g].toArray w (An (.i h) w):=by
 unfold Se at a;refine AA func197 z ntmps197 (Rc 2 (Ef z (AF z z) ?_));rintro _ q ⟨r,rfl,s,t,d,c⟩;have u:=d.size;refine Ro 5 (Fl SL Rq c (Ro 1 ?_));refine Cs a d fK (fun _ e=>(yU e (by omega) (l.oj d):)) ?_;rintro v a x o ⟨f,y⟩;have c:=c.ext o;refine Ro 10 (Wt a f ?_);intro a;refine Rc 4 (Fl Sa Rq c (Ro 1 ?_));refine Cs a f fK (fun _ e=>(yU e (by omega) (m.oj f):)) ?_;rintro A a B C ⟨k,D⟩;refine Ro 10 (Wt a k ?_);intro a;exact Iw a k
def GY(n:Nat)(a0:List Aq)(k0:Int->Int->Option Int):Nat->Int->Int->Option Int
 |0,_,_=>none
 |m+1,c,b=>cond (decide (b<(a0.length:Int))) ((AE a0 b).bind fun d=>(Se n d c).bind fun a=>cond (decide (a<0)) (some (-1)) (GY n a0 k0 m a (wrap .i64 (b+1)))) (k0 c b)
def Ua(n:Nat)(a0:List Aq)(a1:Int):Option Int:=cond (decide (wrap .i64 (a1-((a0.length:Int)))<0)) (some (-1)) (GY n a0 (fun a b=>some a) n (wrap .i64 (a1-((a0.length:Int)))) 0)
theorem AfP{g:List Aq}{j k:Int}{l:Value}(a:Ua n g j=some k)(B:H<=w.heap.size)(m:AS C_Arc w H g l):
 Calls prog 158 [l,.i j].toArray w (An (.i k) w):=by
 have o:=AH.refl w;unfold Ua at a;refine AA func158 z ntmps158 (Rc 9 (Yl z (CB z PO (m.oj o)) (Ro 11 (Wt a o ?_))));intro a;refine Rc 9 (WC.loopD (fun c h wl=>∃d e:Int,Kn 27 [(0,l),(1,.i d),(5,.i e)] h∧AH w wl∧GY n g (fun d e=>(some d)) c d e=some k) n ?_ ?_)
 ·intro h f;exact⟨(wrap .i64 (j-((g.length:Int)))),0,f.sub z,AH.refl _,a⟩
 ·rintro c h C ⟨d,e,f,b,a⟩;refine Bp f ?_;rcases c with _|c;exact Bm a;rw [GY.eq_2]at a;have D:=b.size;refine Rc 5 (Yl z (CB z PO (m.oj b)) (Ro 3 (Wf a b ?_)));intro a;refine Rc 8 (Ix a (m.oj b) PO RG ?_);rintro i E a _ ⟨F,G,I,rfl,J,p,q⟩;obtain⟨r,s,rfl,t,u⟩:=Bj p;refine Yl z (CQ (us:=[.i i.Kind,.i i.From,.i i.To,.i i.Sense,r,s]) z dU q RG) (Ro 1 ?_);refine Cs a b rH (fun _ v=>(AiY v (by omega) t u:)) ?_;rintro x a K y ⟨A,L⟩;refine Ro 9 (Wt a A ?_);intro a;refine Rc 9 ?_;intro h f;exact⟨c,nr,x,(wrap .i64 (e+1)),f.sub z,(AH.trans b y),a⟩
def Tb(n:Nat)(a0:Af)(a1:Int):Option Int:=cond (decide (wrap .i64 (a1-((a0.Name.size:Int)))<0)) (some (-1)) ((VU n a0.Pins (wrap .i64 (a1-((a0.Name.size:Int))))).bind fun c=>cond (decide (c<0)) (some (-1)) ((Ua n a0.Arcs c).bind fun b=>cond (decide (b<0)) (some (-1)) ((Uz n a0.Truth b).bind fun a=>cond (decide (a<0)) (some (-1)) (some a))))
theorem AeK{b:Af}{h i:Int}{j k l:Value}(a:Tb n b h=some i)(t:H<=w.heap.size)(o:AS C_Pin w H b.Pins j)(p:AS C_Arc w H b.Arcs k)(q:AS (AI .i64) w H b.Truth l):
 Calls prog 107 [.agg #[.string b.Name,.i b.Kind,j,k,l,.i b.Leak,.i b.Energy],.i h].toArray w (An (.i i) w):=by
 unfold Tb at a;refine AA func107 z ntmps107 (Rc 2 (Ef z (AF z z) ?_));rintro _ u ⟨v,rfl,x,y,e,c⟩;have A:=e.size;refine Ro 6 (Fl Tv Dy c (Yl z (FF z SK z) (Ro 11 (Wt a e ?_))));intro a;refine Rc 4 (Fl Su ZU c (Ro 1 ?_));refine Cs a e vQ (fun _ d=>(AlB d (by omega) (o.oj e):)) ?_;rintro B a C r ⟨f,D⟩;have c:=c.ext r;refine Ro 10 (Wt a f ?_);intro a;refine Rc 4 (Fl Tj dJ c (Ro 1 ?_));refine Cs a f tO (fun _ d=>(AfP d (by omega) (p.oj f):)) ?_;rintro E a F s ⟨g,G⟩;have c:=c.ext s;refine Ro 10 (Wt a g ?_);intro a;refine Rc 4 (Fl SW Ah c (Ro 1 ?_));refine Cs a g JJ (fun _ d=>(mZ d (by omega) (q.oj g):)) ?_;rintro I a J K ⟨m,L⟩;refine Ro 10 (Wt a m ?_);intro a;exact Iw a m
def GP(n:Nat)(a0:List Af)(k0:Int->Int->Option Int):Nat->Int->Int->Option Int
 |0,_,_=>none
 |m+1,c,b=>cond (decide (b<(a0.length:Int))) ((AE a0 b).bind fun d=>(Tb n d c).bind fun a=>cond (decide (a<0)) (some (-1)) (GP n a0 k0 m a (wrap .i64 (b+1)))) (k0 c b)
def Uo(n:Nat)(a0:List Af)(a1:Int):Option Int:=cond (decide (wrap .i64 (a1-((a0.length:Int)))<0)) (some (-1)) (GP n a0 (fun a b=>some a) n (wrap .i64 (a1-((a0.length:Int)))) 0)
theorem AiF{g:List Af}{j k:Int}{l:Value}(a:Uo n g j=some k)(D:H<=w.heap.size)(m:AS C_Cell w H g l):
 Calls prog 58 [l,.i j].toArray w (An (.i k) w):=by
 have o:=AH.refl w;unfold Uo at a;refine AA func58 z ntmps58 (Rc 9 (Yl z (CB z UR (m.oj o)) (Ro 11 (Wt a o ?_))));intro a;refine Rc 9 (WC.loopD (fun c h wl=>∃d e:Int,Kn 27 [(0,l),(1,.i d),(5,.i e)] h∧AH w wl∧GP n g (fun d e=>(some d)) c d e=some k) n ?_ ?_)
 ·intro h f;exact⟨(wrap .i64 (j-((g.length:Int)))),0,f.sub z,AH.refl _,a⟩
 ·rintro c h E ⟨d,e,f,b,a⟩;refine Bp f ?_;rcases c with _|c;exact Bm a;rw [GP.eq_2]at a;have F:=b.size;refine Rc 5 (Yl z (CB z UR (m.oj b)) (Ro 3 (Wf a b ?_)));intro a;refine Rc 8 (Ix a (m.oj b) UR RO ?_);rintro i G a _ ⟨I,J,K,rfl,L,p,q⟩;obtain⟨r,s,t,rfl,u,v,x⟩:=Bo p;refine Yl z (CQ (us:=[.string i.Name,.i i.Kind,r,s,t,.i i.Leak,.i i.Energy]) z iE q RO) (Ro 1 ?_);refine Cs a b tL (fun _ y=>(AeK y (by omega) u v x:)) ?_;rintro A a M B ⟨C,N⟩;refine Ro 9 (Wt a C ?_);intro a;refine Rc 9 ?_;intro h f;exact⟨c,nr,A,(wrap .i64 (e+1)),f.sub z,(AH.trans b B),a⟩
def VE(n:Nat)(a0:Ad)(a1:Int):Option Int:=(Uo n a0.Cells a1).bind fun a=>cond (decide (a<0)) (some (-1)) (some a)
theorem AiN{c:Ad}{d e:Int}{f:Value}(a:VE n c d=some e)(k:H<=w.heap.size)(h:AS C_Cell w H c.Cells f):
 Calls prog 26 [.agg #[f],.i d].toArray w (An (.i e) w):=by
 unfold VE at a;refine AA func26 z ntmps26 (Rc 2 (Ef z (AF z z) ?_));rintro _ l ⟨m,rfl,o,p,b,i⟩;have q:=b.size;refine Ro 5 (Fl Ws nT i (Ro 1 ?_));refine Cs a b yN (fun _ j=>(AiF j (by omega) (h.oj b):)) ?_;rintro r a s t ⟨g,u⟩;refine Ro 10 (Wt a g ?_);intro a;exact Iw a g
def Si(n:Nat)(a0:AX)(a1:Int):Option Int:=cond (decide (wrap .i64 (a1-((a0.Name.size:Int)))<0)) (some (-1)) ((Uz n a0.Nets (wrap .i64 (a1-((a0.Name.size:Int))))).bind fun a=>cond (decide (a<0)) (some (-1)) (some a))
theorem AlA{b:AX}{d e:Int}{f:Value}(a:Si n b d=some e)(k:H<=w.heap.size)(i:AS (AI .i64) w H b.Nets f):
 Calls prog 108 [.agg #[.string b.Name,.i b.Cell,f],.i d].toArray w (An (.i e) w):=by
 unfold Si at a;refine AA func108 z ntmps108 (Rc 2 (Ef z (AF z z) ?_));rintro _ l ⟨m,rfl,o,p,c,g⟩;have q:=c.size;refine Ro 6 (Fl Te Dy g (Yl z (FF z SK z) (Ro 11 (Wt a c ?_))));intro a;refine Rc 4 (Fl SY Ah g (Ro 1 ?_));refine Cs a c JJ (fun _ j=>(mZ j (by omega) (i.oj c):)) ?_;rintro r a s t ⟨h,u⟩;refine Ro 10 (Wt a h ?_);intro a;exact Iw a h
def GR(n:Nat)(a0:List AX)(k0:Int->Int->Option Int):Nat->Int->Int->Option Int
 |0,_,_=>none
 |m+1,c,b=>cond (decide (b<(a0.length:Int))) ((AE a0 b).bind fun d=>(Si n d c).bind fun a=>cond (decide (a<0)) (some (-1)) (GR n a0 k0 m a (wrap .i64 (b+1)))) (k0 c b)
def VL(n:Nat)(a0:List AX)(a1:Int):Option Int:=cond (decide (wrap .i64 (a1-((a0.length:Int)))<0)) (some (-1)) (GR n a0 (fun a b=>some a) n (wrap .i64 (a1-((a0.length:Int)))) 0)
theorem AjT{g:List AX}{i j:Int}{k:Value}(a:VL n g i=some j)(y:H<=w.heap.size)(l:AS C_Instance w H g k):
 Calls prog 59 [k,.i i].toArray w (An (.i j) w):=by
 have m:=AH.refl w;unfold VL at a;refine AA func59 z ntmps59 (Rc 9 (Yl z (CB z Vl (l.oj m)) (Ro 11 (Wt a m ?_))));intro a;refine Rc 9 (WC.loopD (fun c h wl=>∃d e:Int,Kn 27 [(0,k),(1,.i d),(5,.i e)] h∧AH w wl∧GR n g (fun d e=>(some d)) c d e=some j) n ?_ ?_)
 ·intro h f;exact⟨(wrap .i64 (i-((g.length:Int)))),0,f.sub z,AH.refl _,a⟩
 ·rintro c h A ⟨d,e,f,b,a⟩;refine Bp f ?_;rcases c with _|c;exact Bm a;rw [GR.eq_2]at a;have B:=b.size;refine Rc 5 (Yl z (CB z Vl (l.oj b)) (Ro 3 (Wf a b ?_)));intro a;refine Rc 8 (Ix a (l.oj b) Vl Qo ?_);rintro o C a _ ⟨D,E,F,rfl,G,p,q⟩;obtain⟨r,rfl,s⟩:=BJ p;refine Yl z (CQ (us:=[.string o.Name,.i o.Cell,r]) z ZE q Qo) (Ro 1 ?_);refine Cs a b uH (fun _ t=>(AlA t (by omega) s:)) ?_;rintro u a I v ⟨x,J⟩;refine Ro 9 (Wt a x ?_);intro a;refine Rc 9 ?_;intro h f;exact⟨c,nr,u,(wrap .i64 (e+1)),f.sub z,(AH.trans b v),a⟩
def GN(a0:List ByteArray)(k0:Int->Int->Option Int):Nat->Int->Int->Option Int
 |0,_,_=>none
 |m+1,b,a=>cond (decide (a<(a0.length:Int))) ((AE a0 a).bind fun c=>cond (decide (wrap .i64 (b-((c.size:Int)))<0)) (some (-1)) (GN a0 k0 m (wrap .i64 (b-((c.size:Int)))) (wrap .i64 (a+1)))) (k0 b a)
def UX(n:Nat)(a0:List ByteArray)(a1:Int):Option Int:=cond (decide (wrap .i64 (a1-((a0.length:Int)))<0)) (some (-1)) (GN a0 (fun a b=>some a) n (wrap .i64 (a1-((a0.length:Int)))) 0)
theorem AhE{g:List ByteArray}{i j:Int}{k:Value}(a:UX n g i=some j)(p:H<=w.heap.size)(l:AS Au w H g k):
 Calls prog 60 [k,.i i].toArray w (An (.i j) w):=by
 have m:=AH.refl w;unfold UX at a;refine AA func60 z ntmps60 (Rc 9 (Yl z (CB z DV (l.oj m)) (Ro 11 (Wt a m ?_))));intro a;refine Rc 9 (WC.loopD (fun d h wl=>∃b e:Int,Kn 28 [(0,k),(1,.i b),(5,.i e)] h∧AH w wl∧GN g (fun b e=>(some b)) d b e=some j) n ?_ ?_)
 ·intro h f;exact⟨(wrap .i64 (i-((g.length:Int)))),0,f.sub z,AH.refl _,a⟩
 ·rintro d h q ⟨b,e,f,c,a⟩;refine Bp f ?_;rcases d with _|d;exact Bm a;rw [GN.eq_2]at a;have r:=c.size;refine Rc 5 (Yl z (CB z DV (l.oj c)) (Ro 3 (Wf a c ?_)));intro a;refine Rc 9 (Il a (l.oj c) DV HV Dy ?_);rintro o a _;refine Yl z (FF z SK z) (Ro 10 (Wt a c ?_));intro a;refine Rc 9 ?_;intro h f;exact⟨d,nr,(wrap .i64 (b-((o.size:Int)))),(wrap .i64 (e+1)),f.sub z,c,a⟩
def TD(n:Nat)(a0:BN)(a1:Int):Option Int:=cond (decide (wrap .i64 (a1-((a0.Name.size:Int)))<0)) (some (-1)) (some (wrap .i64 (a1-((a0.Name.size:Int)))))
theorem AgZ{a:BN}{d e:Int}(b:TD n a d=some e):
 Calls prog 109 [.agg #[.string a.Name,.i a.Dir,.i a.Net],.i d].toArray w (An (.i e) w):=by
 unfold TD at b;refine AA func109 z ntmps109 (Rc 2 (Ef z (AF z z) ?_));rintro _ g ⟨h,rfl,i,H,c,f⟩;have j:=c.size;refine Ro 6 (Fl TQ Dy f (Yl z (FF z SK z) (Ro 11 (Wt b c ?_))));intro b;exact Iw b c
def GQ(n:Nat)(a0:List BN)(k0:Int->Int->Option Int):Nat->Int->Int->Option Int
 |0,_,_=>none
 |m+1,c,b=>cond (decide (b<(a0.length:Int))) ((AE a0 b).bind fun d=>(TD n d c).bind fun a=>cond (decide (a<0)) (some (-1)) (GQ n a0 k0 m a (wrap .i64 (b+1)))) (k0 c b)
def VC(n:Nat)(a0:List BN)(a1:Int):Option Int:=cond (decide (wrap .i64 (a1-((a0.length:Int)))<0)) (some (-1)) (GQ n a0 (fun a b=>some a) n (wrap .i64 (a1-((a0.length:Int)))) 0)
theorem AhM{g:List BN}{i j:Int}{k:Value}(a:VC n g i=some j)(u:H<=w.heap.size)(l:AS C_Port w H g k):
 Calls prog 61 [k,.i i].toArray w (An (.i j) w):=by
 have o:=AH.refl w;unfold VC at a;refine AA func61 z ntmps61 (Rc 9 (Yl z (CB z Vt (l.oj o)) (Ro 11 (Wt a o ?_))));intro a;refine Rc 9 (WC.loopD (fun c h wl=>∃d e:Int,Kn 27 [(0,k),(1,.i d),(5,.i e)] h∧AH w wl∧GQ n g (fun d e=>(some d)) c d e=some j) n ?_ ?_)
 ·intro h f;exact⟨(wrap .i64 (i-((g.length:Int)))),0,f.sub z,AH.refl _,a⟩
 ·rintro c h v ⟨d,e,f,b,a⟩;refine Bp f ?_;rcases c with _|c;exact Bm a;rw [GQ.eq_2]at a;have x:=b.size;refine Rc 5 (Yl z (CB z Vt (l.oj b)) (Ro 3 (Wf a b ?_)));intro a;refine Rc 8 (Ix a (l.oj b) Vt RY ?_);rintro m y a _ ⟨A,B,C,rfl,D,p,q⟩;obtain rfl:=CI p;refine Yl z (CQ (us:=[.string m.Name,.i m.Dir,.i m.Net]) z dC q RY) (Ro 1 ?_);refine Cs a b qS (fun _=>AgZ) ?_;rintro r a E s ⟨t,F⟩;refine Ro 9 (Wt a t ?_);intro a;refine Rc 9 ?_;intro h f;exact⟨c,nr,r,(wrap .i64 (e+1)),f.sub z,(AH.trans b s),a⟩
def Uv(n:Nat)(a0:AQ)(a1:Int):Option Int:=(VL n a0.Instances a1).bind fun c=>cond (decide (c<0)) (some (-1)) ((UX n a0.Nets c).bind fun b=>cond (decide (b<0)) (some (-1)) ((VC n a0.Ports b).bind fun a=>cond (decide (a<0)) (some (-1)) (some a)))
theorem AfB{d:AQ}{h i:Int}{j k l:Value}(a:Uv n d h=some i)(t:H<=w.heap.size)(o:AS C_Instance w H d.Instances j)(p:AS Au w H d.Nets k)(q:AS C_Port w H d.Ports l):
 Calls prog 27 [.agg #[j,k,l],.i h].toArray w (An (.i i) w):=by
 unfold Uv at a;refine AA func27 z ntmps27 (Rc 2 (Ef z (AF z z) ?_));rintro _ u ⟨v,rfl,x,y,e,b⟩;have A:=e.size;refine Ro 5 (Fl Wm oN b (Ro 1 ?_));refine Cs a e AcQ (fun _ c=>(AjT c (by omega) (o.oj e):)) ?_;rintro B a C r ⟨f,D⟩;have b:=b.ext r;refine Ro 10 (Wt a f ?_);intro a;refine Rc 4 (Fl WL HC b (Ro 1 ?_));refine Cs a f AbN (fun _ c=>(AhE c (by omega) (p.oj f):)) ?_;rintro E a F s ⟨g,G⟩;have b:=b.ext s;refine Ro 10 (Wt a g ?_);intro a;refine Rc 4 (Fl WO pJ b (Ro 1 ?_));refine Cs a g xZ (fun _ c=>(AhM c (by omega) (q.oj g):)) ?_;rintro I a J K ⟨m,L⟩;refine Ro 10 (Wt a m ?_);intro a;exact Iw a m
def TX(n:Nat)(a0:Aw)(a1:Int):Option Int:=(Uz n a0.Parent a1).bind fun a=>cond (decide (a<0)) (some (-1)) ((Uz n a0.Res a).bind fun d=>cond (decide (d<0)) (some (-1)) ((Uz n a0.Cap d).bind fun c=>cond (decide (c<0)) (some (-1)) ((Uz n a0.Sink c).bind fun b=>cond (decide (b<0)) (some (-1)) (some b))))
theorem AhJ{d:Aw}{i j:Int}{k l m o:Value}(a:TX n d i=some j)(y:H<=w.heap.size)(q:AS (AI .i64) w H d.Parent k)(r:AS (AI .i64) w H d.Res l)(s:AS (AI .i64) w H d.Cap m)(t:AS (AI .i64) w H d.Sink o):
 Calls prog 62 [.agg #[k,l,m,o],.i i].toArray w (An (.i j) w):=by
 unfold TX at a;refine AA func62 z ntmps62 (Rc 2 (Ef z (AF z z) ?_));rintro _ A ⟨B,rfl,C,D,e,b⟩;have E:=e.size;refine Ro 5 (Fl TC Ah b (Ro 1 ?_));refine Cs a e JJ (fun _ c=>(mZ c (by omega) (q.oj e):)) ?_;rintro F a G u ⟨f,I⟩;have b:=b.ext u;refine Ro 10 (Wt a f ?_);intro a;refine Rc 4 (Fl Sh Ah b (Ro 1 ?_));refine Cs a f JJ (fun _ c=>(mZ c (by omega) (r.oj f):)) ?_;rintro J a K v ⟨g,L⟩;have b:=b.ext v;refine Ro 10 (Wt a g ?_);intro a;refine Rc 4 (Fl UC Ah b (Ro 1 ?_));refine Cs a g JJ (fun _ c=>(mZ c (by omega) (s.oj g):)) ?_;rintro M a N x ⟨h,O⟩;have b:=b.ext x;refine Ro 10 (Wt a h ?_);intro a;refine Rc 4 (Fl Ti Ah b (Ro 1 ?_));refine Cs a h JJ (fun _ c=>(mZ c (by omega) (t.oj h):)) ?_;rintro P a Q R ⟨p,S⟩;refine Ro 10 (Wt a p ?_);intro a;exact Iw a p
def GV(n:Nat)(a0:List Aw)(k0:Int->Int->Option Int):Nat->Int->Int->Option Int
 |0,_,_=>none
 |m+1,c,b=>cond (decide (b<(a0.length:Int))) ((AE a0 b).bind fun d=>(TX n d c).bind fun a=>cond (decide (a<0)) (some (-1)) (GV n a0 k0 m a (wrap .i64 (b+1)))) (k0 c b)
def VA(n:Nat)(a0:List Aw)(a1:Int):Option Int:=cond (decide (wrap .i64 (a1-((a0.length:Int)))<0)) (some (-1)) (GV n a0 (fun a b=>some a) n (wrap .i64 (a1-((a0.length:Int)))) 0)
theorem AgU{g:List Aw}{i j:Int}{k:Value}(a:VA n g i=some j)(E:H<=w.heap.size)(l:AS C_Wire w H g k):
 Calls prog 28 [k,.i i].toArray w (An (.i j) w):=by
 have m:=AH.refl w;unfold VA at a;refine AA func28 z ntmps28 (Rc 9 (Yl z (CB z Uc (l.oj m)) (Ro 11 (Wt a m ?_))));intro a;refine Rc 9 (WC.loopD (fun c h wl=>∃d e:Int,Kn 27 [(0,k),(1,.i d),(5,.i e)] h∧AH w wl∧GV n g (fun d e=>(some d)) c d e=some j) n ?_ ?_)
 ·intro h f;exact⟨(wrap .i64 (i-((g.length:Int)))),0,f.sub z,AH.refl _,a⟩
 ·rintro c h F ⟨d,e,f,b,a⟩;refine Bp f ?_;rcases c with _|c;exact Bm a;rw [GV.eq_2]at a;have G:=b.size;refine Rc 5 (Yl z (CB z Uc (l.oj b)) (Ro 3 (Wf a b ?_)));intro a;refine Rc 8 (Ix a (l.oj b) Uc Qt ?_);rintro I J a _ ⟨K,L,M,rfl,N,o,p⟩;obtain⟨q,r,s,t,rfl,u,v,x,y⟩:=CL o;refine Yl z (CQ (us:=[q,r,s,t]) z cH p Qt) (Ro 1 ?_);refine Cs a b AdH (fun _ A=>(AhJ A (by omega) u v x y:)) ?_;rintro B a O C ⟨D,P⟩;refine Ro 9 (Wt a D ?_);intro a;refine Rc 9 ?_;intro h f;exact⟨c,nr,B,(wrap .i64 (e+1)),f.sub z,(AH.trans b C),a⟩
def UZ(n:Nat)(a0:AM)(a1:Int):Option Int:=(VE n a0.Library a1).bind fun b=>cond (decide (b<0)) (some (-1)) ((Uv n a0.Design b).bind fun c=>cond (decide (c<0)) (some (-1)) ((VA n a0.Wires c).bind fun a=>cond (decide (a<0)) (some (-1)) (some a)))
theorem AjS{c:AM}{l m:Int}{f g h i o:Value}(a:UZ n c l=some m)(y:H<=w.heap.size)(q:AS C_Cell w H c.Library.Cells f)(r:AS C_Instance w H c.Design.Instances g)(s:AS Au w H c.Design.Nets h)(t:AS C_Port w H c.Design.Ports i)(u:AS C_Wire w H c.Wires o):
 Calls prog 4 [.agg #[f,g,h,i,o],.i l].toArray w (An (.i m) w):=by
 unfold UZ at a;refine AA func4 z ntmps4 (Rc 2 (Ef z (AF z z) ?_));rintro _ A ⟨B,rfl,C,D,j,b⟩;have E:=j.size;refine Ro 5 (Yl z (BI z Wj) (Yl z (CQ (us:=[f]) z nW (AP.sub (Aj.cells b) 0 1:AP _ _ _ [f]) oO) (Ro 1 ?_)));refine Cs a j AcF (fun _ d=>(AiN d (by omega) (q.oj j):)) ?_;rintro F a G v ⟨e,I⟩;have b:=b.ext v;refine Ro 10 (Wt a e ?_);intro a;refine Rc 4 (Yl z (BI z WR) (Yl z (CQ (us:=[g,h,i]) z nV (AP.sub (Aj.cells b) 1 3:AP _ _ _ [g,h,i]) oD) (Ro 1 ?_)));refine Cs a e zL (fun _ d=>(AfB d (by omega) (r.oj e) (s.oj e) (t.oj e):)) ?_;rintro J a K x ⟨k,L⟩;have b:=b.ext x;refine Ro 10 (Wt a k ?_);intro a;refine Rc 4 (Fl Wb pH b (Ro 1 ?_));refine Cs a k AcD (fun _ d=>(AgU d (by omega) (u.oj k):)) ?_;rintro M a N O ⟨p,P⟩;refine Ro 10 (Wt a p ?_);intro a;exact Iw a p
def ZG(n:Nat)(a0:Ak)(a1:Int):Option Int:=cond (decide (wrap .i64 (a1-((a0.Name.size:Int)))<0)) (some (-1)) (some (wrap .i64 (a1-((a0.Name.size:Int)))))
theorem AdO{a:Ak}{d e:Int}(b:ZG n a d=some e):
 Calls prog 5 [.agg #[.string a.Name,.i a.CellEarly,.i a.CellLate,.i a.WireEarly,.i a.WireLate],.i d].toArray w (An (.i e) w):=by
 unfold ZG at b;refine AA func5 z ntmps5 (Rc 2 (Ef z (AF z z) ?_));rintro _ g ⟨h,rfl,i,H,c,f⟩;have j:=c.size;refine Ro 6 (Fl WB Dy f (Yl z (FF z SK z) (Ro 11 (Wt b c ?_))));intro b;exact Iw b c
def bQ(n:Nat)(a0:List Bool)(a1:Int):Option Int:=cond (decide (wrap .i64 (a1-((a0.length:Int)))<0)) (some (-1)) (some (wrap .i64 (a1-((a0.length:Int)))))
theorem AiO{c:List Bool}{d e:Int}{f:Value}(a:bQ n c d=some e)(h:H<=w.heap.size)(g:AS Am w H c f):
 Calls prog 29 [f,.i d].toArray w (An (.i e) w):=by
 have b:=AH.refl w;unfold bQ at a;refine AA func29 z ntmps29 (Rc 9 (Yl z (CB z Da (g.oj b)) (Ro 11 (Wt a b ?_))));intro a;exact Iw a b
def YC(n:Nat)(a0:List AO)(a1:Int):Option Int:=cond (decide (wrap .i64 (a1-((a0.length:Int)))<0)) (some (-1)) (some (wrap .i64 (a1-((a0.length:Int)))))
theorem AdI{c:List AO}{d e:Int}{f:Value}(a:YC n c d=some e)(h:H<=w.heap.size)(g:AS C_Span w H c f):
 Calls prog 30 [f,.i d].toArray w (An (.i e) w):=by
 have b:=AH.refl w;unfold YC at a;refine AA func30 z ntmps30 (Rc 9 (Yl z (CB z aJ (g.oj b)) (Ro 11 (Wt a b ?_))));intro a;exact Iw a b
def aL(n:Nat)(a0:Ap)(a1:Int):Option Int:=(bQ n a0.Reached a1).bind fun c=>cond (decide (c<0)) (some (-1)) ((YC n a0.Arrival c).bind fun b=>cond (decide (b<0)) (some (-1)) ((YC n a0.Slew b).bind fun a=>cond (decide (a<0)) (some (-1)) (some a)))
theorem AfA{d:Ap}{h i:Int}{j k l:Value}(a:aL n d h=some i)(t:H<=w.heap.size)(o:AS Am w H d.Reached j)(p:AS C_Span w H d.Arrival k)(q:AS C_Span w H d.Slew l):
 Calls prog 6 [.agg #[j,k,l],.i h].toArray w (An (.i i) w):=by
 unfold aL at a;refine AA func6 z ntmps6 (Rc 2 (Ef z (AF z z) ?_));rintro _ u ⟨v,rfl,x,y,e,b⟩;have A:=e.size;refine Ro 5 (Fl WJ EI b (Ro 1 ?_));refine Cs a e yM (fun _ c=>(AiO c (by omega) (o.oj e):)) ?_;rintro B a C r ⟨f,D⟩;have b:=b.ext r;refine Ro 10 (Wt a f ?_);intro a;refine Rc 4 (Fl WD Wd b (Ro 1 ?_));refine Cs a f nQ (fun _ c=>(AdI c (by omega) (p.oj f):)) ?_;rintro E a F s ⟨g,G⟩;have b:=b.ext s;refine Ro 10 (Wt a g ?_);intro a;refine Rc 4 (Fl WP Wd b (Ro 1 ?_));refine Cs a g nQ (fun _ c=>(AdI c (by omega) (q.oj g):)) ?_;rintro I a J K ⟨m,L⟩;refine Ro 10 (Wt a m ?_);intro a;exact Iw a m
def eV(n:Nat)(a0:List AJ)(a1:Int):Option Int:=cond (decide (wrap .i64 (a1-((a0.length:Int)))<0)) (some (-1)) (some (wrap .i64 (a1-((a0.length:Int)))))
theorem AeA{c:List AJ}{d e:Int}{f:Value}(a:eV n c d=some e)(h:H<=w.heap.size)(g:AS C_Target w H c f):
 Calls prog 7 [f,.i d].toArray w (An (.i e) w):=by
 have b:=AH.refl w;unfold eV at a;refine AA func7 z ntmps7 (Rc 9 (Yl z (CB z gX (g.oj b)) (Ro 11 (Wt a b ?_))));intro a;exact Iw a b
def Ny(a0:List Int)(k0:Int->(List Int)->Option (List Int)):Nat->Int->(List Int)->Option (List Int)
 |0,_,_=>none
 |m+1,a,b=>cond (decide (a<(a0.length:Int))) ((AE a0 a).bind fun c=>(AE b a).bind fun d=>Ny a0 k0 m (wrap .i64 (a+1)) ((b.set (a).toNat c))) (k0 a b)
def TK(n:Nat)(a0:List Int):Option (List Int):=(KG ((a0.length:Int)) 8).bind fun b=>Ny a0 (fun c a=>some a) n 0 (List.replicate b 0)
theorem Xu{h i:List Int}{j:Value}(a:TK n h=some i)(O:H<=w.heap.size)(k:AS (AI .i64) w H h j):
 Calls prog 11 [j].toArray w (DM fun v o=>∃p,v=p∧AB (AI .i64) o w.heap.size (Iv 0 0) 2 i p∧AH w o):=by
 have x:=AH.refl w;unfold TK at a;refine AA func11 z ntmps11 (Rc 8 (Yl z (CB z Ac (k.oj x)) ?_));have⟨y,A,a⟩:=AG a;refine Ef z (Bt (c:=(AI .i64)) (z:=0) z Ac Dx z z z A z z (fun _=>z)) ?_;rintro q B ⟨C,r,P,Q,s,D⟩;have R:=s.size;have E:=BP r;clear r;refine Ro 10 (WC.loopD (fun d f wl=>∃(b:Int) (c:List Int),Kn 22 [(0,j),(3,q),(4,.i b)] f∧AH w wl∧B.heap.size<=wl.heap.size∧AB (AI .i64) wl (C) (Iv 0 0) 2 c q∧Ny h (fun b c=>(some c)) d b c=some i) n ?_ ?_)
 ·intro f e;exact⟨0,(List.replicate y 0),e.sub z,s,nr,D,a⟩
 ·rintro d f S ⟨b,c,e,g,T,l,a⟩;refine Bp e ?_;rcases d with _|d;exact Bm a;rw [Ny.eq_2]at a;refine Rc 5 (Yl z (CB z Ac (k.oj g)) (Ro 3 (Wc z a ?_ ?_)))
  ·intro a;refine Rc 9 (Il a (k.oj g) Ac Al AK ?_);rintro m a _;refine Io a l Ac Al ?_;rintro U F a _ ⟨V,W,rfl,t,u,G⟩;have I:=u;obtain rfl:=u;refine Ef z (Ae (c:=(AI .i64)) (us':=[.i m]) (y':=m) 0 _ z z z l t F z Al z I G z z z (fun J K=>absurd K.2 (Nat.not_lt_zero J))) ?_;rintro _ X ⟨L,M⟩;have⟨N,Y⟩:=Eu g L (by have:=E _ t;omega);refine Ro 9 ?_;intro f e;exact⟨d,nr,(wrap .i64 (b+1)),((c.set (b).toNat m)),e.sub z,N,(by omega),M,a⟩
  ·intro a;cases BM a;exact Rc 12 (Ne z z ⟨_,z,_,z,AB.base l,g⟩)
def ZK(n:Nat)(a0:BQ):Option BQ:=some a0
theorem AeZ{d e:BQ}(hF:ZK n d=some e):
 Calls prog 203 [.agg #[.string d.Name,.i d.Dir,.i d.Cap,.bool d.Clock]].toArray w (DM fun m f=>m= .agg #[.string e.Name,.i e.Dir,.i e.Cap,.bool e.Clock]∧AH w f):=by
 unfold ZK at hF;refine AA func203 z ntmps203 (Rc 2 (Ef z (AF z z) ?_));rintro _ f ⟨D,rfl,E,F,g,a⟩;have G:=g.size;refine Ef z (AV z Pe) ?_;rintro _ I ⟨J,rfl,K,L,h,b⟩;have⟨o,M⟩:=Et g h;have a:=a.ext h;refine Ro 4 (Ef z (AV z Pe) ?_);rintro _ N ⟨O,rfl,P,Q,i,c⟩;have⟨p,R⟩:=Et o i;have⟨a,b⟩:=Bs a b i;refine Ro 4 (Fl UH Dy a (Yl z (BI z Gk) (Ef z (CD z c HV z z) ?_)));rintro _ S ⟨j,q⟩;have⟨r,T⟩:=Eu p j;have⟨a,b⟩:=IQ a b j;have c:=q;refine Ro 4 (Fl aG AK a (Yl z (BI z Gh) (Ef z (CD z c Al z z) ?_)));rintro _ U ⟨H,s⟩;have⟨t,V⟩:=Eu r H;have⟨a,b⟩:=IQ a b H;have c:=s;refine Ro 4 (Fl bB AK a (Yl z (BI z FB) (Ef z (CD z c Al z z) ?_)));rintro _ W ⟨k,u⟩;have⟨v,X⟩:=Eu t k;have⟨a,b⟩:=IQ a b k;have c:=u;refine Ro 4 (Fl fJ Dl a (Yl z (BI z DG) (Ef z (CD z c EH z z) ?_)));rintro _ Y ⟨l,x⟩;have⟨y,Z⟩:=Eu v l;have b:=b.upd l (by omega);have c:=x;refine Ro 4 (Yl z (BY z KZ c CK) (Ef z (CD z b CK z z) ?_));rintro _ a0 ⟨A,B⟩;have⟨C,b0⟩:=Eu y A;have b:=B;obtain rfl:=(UO hF);exact Ro 3 (UW b KZ CK ⟨_,z,z,C⟩)
def LP(n:Nat)(a0:List BQ)(k0:Int->(List BQ)->Option (List BQ)):Nat->Int->(List BQ)->Option (List BQ)
 |0,_,_=>none
 |m+1,a,b=>cond (decide (a<(a0.length:Int))) ((AE a0 a).bind fun d=>(ZK n d).bind fun c=>(AE b a).bind fun e=>LP n a0 k0 m (wrap .i64 (a+1)) ((b.set (a).toNat c))) (k0 a b)
def Yt(n:Nat)(a0:List BQ):Option (List BQ):=(KG ((a0.length:Int)) 40).bind fun b=>LP n a0 (fun c a=>some a) n 0 (List.replicate b ((BQ.mk ByteArray.empty 0 0 false)))
theorem AeH{i j:List BQ}{k:Value}(hF:Yt n i=some j)(hH:H<=w.heap.size)(l:AS C_Pin w H i k):
 Calls prog 169 [k].toArray w (DM fun x o=>∃p,x=p∧AB C_Pin o w.heap.size (Iv 0 0) 279 j p∧AH w o):=by
 have y:=AH.refl w;unfold Yt at hF;refine AA func169 z ntmps169 (Rc 8 (Yl z (CB z PQ (l.oj y)) ?_));have⟨A,B,hF⟩:=AG hF;refine Ef z (Bt (c:=C_Pin) (z:=(BQ.mk ByteArray.empty 0 0 false)) z Cy qJ z z z B z z (fun _=>Sq)) ?_;rintro q C ⟨D,r,R,S,s,E⟩;have T:=s.size;have F:=BP r;clear r;refine Ro 10 (WC.loopD (fun d f wl=>∃(a:Int) (b:List BQ),Kn 23 [(0,k),(3,q),(4,.i a)] f∧AH w wl∧C.heap.size<=wl.heap.size∧AB C_Pin wl (D) (Iv 0 0) 279 b q∧LP n i (fun a b=>(some b)) d a b=some j) n ?_ ?_)
 ·intro f hK;exact⟨0,(List.replicate A ((BQ.mk ByteArray.empty 0 0 false))),hK.sub z,s,nr,E,hF⟩
 ·rintro d f U ⟨a,b,hK,g,V,e,hF⟩;refine Bp hK ?_;rcases d with _|d;exact Bm hF;rw [LP.eq_2]at hF;refine Rc 5 (Yl z (CB z PQ (l.oj g)) (Ro 3 (Wc z hF ?_ ?_)))
  ·intro hF;refine Rc 9 (Ix hF (l.oj g) PQ RB ?_);rintro h W hF _ ⟨X,Y,Z,rfl,a0,G,I⟩;obtain rfl:=Bk G;refine Yl z (CQ (us:=[.string h.Name,.i h.Dir,.i h.Cap,.bool h.Clock]) z cJ I RB) ?_;refine Cg hF sN (fun _ m=>(AeZ m:)) ?_;rintro c hF _ b0 ⟨rfl,t⟩;have⟨J,c0⟩:=Et g t;have e:=e.ext t;refine Io hF e Cy CK ?_;rintro d0 K hF _ ⟨e0,f0,rfl,u,v,L⟩;have M:=v;obtain rfl:=Bk v;refine Ef z (Ae (c:=C_Pin) (us':=[.string c.Name,.i c.Dir,.i c.Cap,.bool c.Clock]) (y':=c) 0 _ z z z e u K z CK z M L z z Sq (fun N m=>absurd m.2 (Nat.not_lt_zero N))) ?_;rintro _ g0 ⟨O,P⟩;have⟨Q,h0⟩:=Eu J O (by have:=F _ u;omega);refine Ro 9 ?_;intro f hK;exact⟨d,nr,(wrap .i64 (a+1)),((b.set (a).toNat c)),hK.sub z,Q,(by omega),P,hF⟩
  ·intro hF;cases BM hF;exact Rc 12 (Ne z z ⟨_,z,_,z,AB.base e,g⟩)
def Xx(n:Nat)(a0:Ab):Option Ab:=(TK n a0.Slews).bind fun b=>(TK n a0.Loads).bind fun a=>(TK n a0.Values).bind fun c=>some ((Ab.mk b a c))
theorem AkP{k l:Ab}{s t u:Value}(g:Xx n k=some l)(Z:H<=w.heap.size)(L:AS (AI .i64) w H k.Slews s)(M:AS (AI .i64) w H k.Loads t)(N:AS (AI .i64) w H k.Values u):
 Calls prog 249 [.agg #[s,t,u]].toArray w (DM fun O m=>∃o p q,O= .agg #[o,p,q]∧AB (AI .i64) m w.heap.size (Iv 0 0) 2 l.Slews o∧AB (AI .i64) m w.heap.size (Iv 0 0) 2 l.Loads p∧AB (AI .i64) m w.heap.size (Iv 0 0) 2 l.Values q∧No p o∧No q o∧No q p∧AH w m):=by
 unfold Xx at g;refine AA func249 z ntmps249 (Rc 2 (Ef z (AF z z) ?_));rintro _ a0 ⟨b0,rfl,c0,d0,v,c⟩;have e0:=v.size;refine Ef z (AV z cQ) ?_;rintro _ f0 ⟨g0,rfl,h0,i0,x,a⟩;have⟨P,j0⟩:=Et v x;have c:=c.ext x;refine Ro 4 (Ef z (AV z cQ) ?_);rintro _ k0 ⟨l0,rfl,m0,n0,y,d⟩;have⟨A,o0⟩:=Et P y;have⟨c,a⟩:=Bs c a y;refine Ro 4 (Fl Tm Ah c ?_);refine Cg g IY (fun _ i=>(Xu i (by omega) (L.oj A):)) ?_;rintro p0 g q0 r0 ⟨_,rfl,b,B⟩;have⟨Q,s0⟩:=Et A B;have⟨c,a,d⟩:=DR c a d B;have h:=AB.blk b;refine Yl z (BI z FG) (Ef z (BV z z z d HA b.cells b.one z) ?_);rintro _ t0 ⟨C,R⟩;have⟨D,u0⟩:=Eu Q C;have⟨c,a,b⟩:=JT c a (BT b h) C;have d:=R;refine Ro 4 (Fl SJ Ah c ?_);refine Cg g IY (fun _ i=>(Xu i (by omega) (M.oj D):)) ?_;rintro v0 g w0 x0 ⟨_,rfl,e,E⟩;have⟨S,y0⟩:=Et D E;have⟨c,a,d,b⟩:=EU c a d b E;have j:=AB.blk e;refine Yl z (BI z EW) (Ef z (BV z z z d HA e.cells e.one z) ?_);rintro _ z0 ⟨F,T⟩;have⟨G,A0⟩:=Eu S F;have⟨c,a,b,e⟩:=Od c a (BT b h) (BT e j) F;have d:=T;refine Ro 4 (Fl UA Ah c ?_);refine Cg g IY (fun _ i=>(Xu i (by omega) (N.oj G):)) ?_;rintro B0 g C0 D0 ⟨_,rfl,f,I⟩;have⟨U,E0⟩:=Et G I;have⟨a,d,b,e⟩:=EU a d b e I;have r:=AB.blk f;refine Yl z (BI z CW) (Ef z (BV z z z d HA f.cells f.one z) ?_);rintro _ F0 ⟨J,V⟩;have⟨W,G0⟩:=Eu U J;have⟨a,b,e,f⟩:=Od a (BT b h) (BT e j) (BT f r) J;have d:=V;refine Ro 4 (Yl z (BY z Gz d DI) (Ef z (CD z a DI (AC b.one (AC e.one (AC f.one Az))) z) ?_));rintro _ H0 ⟨K,X⟩;have⟨Y,I0⟩:=Eu W K;have⟨b,e,f⟩:=JT (BT b h) (BT e j) (BT f r) K;have a:=X;cases BM g;exact Ro 3 (UW a Gz DI ⟨_,z,_,_,_,z,AB.base b,AB.base e,AB.base f,(No.of j h),(No.of r h),(No.of r j),Y⟩)
def Lh(n:Nat)(a0:List Ab)(k0:Int->(List Ab)->Option (List Ab)):Nat->Int->(List Ab)->Option (List Ab)
 |0,_,_=>none
 |m+1,a,b=>cond (decide (a<(a0.length:Int))) ((AE a0 a).bind fun c=>(Xx n c).bind fun d=>(AE b a).bind fun e=>Lh n a0 k0 m (wrap .i64 (a+1)) ((b.set (a).toNat d))) (k0 a b)
def YB(n:Nat)(a0:List Ab):Option (List Ab):=(KG ((a0.length:Int)) 72).bind fun b=>Lh n a0 (fun c a=>some a) n 0 (List.replicate b ((Ab.mk (([]:List Int)) (([]:List Int)) (([]:List Int)))))
theorem AaY{k l:List Ab}{m:Value}(hF:YB n k=some l)(hH:H<=w.heap.size)(o:AS C_Table w H k m):
 Calls prog 234 [m].toArray w (DM fun G p=>∃q,G=q∧AB C_Table p w.heap.size (SX w.heap.size p.heap.size q) 253 l q∧AH w p):=by
 have I:=AH.refl w;unfold YB at hF;refine AA func234 z ntmps234 (Rc 8 (Yl z (CB z Pk (o.oj I)) ?_));have⟨J,K,hF⟩:=AG hF;refine Ef z (Bt (c:=C_Table) (z:=(Ab.mk (([]:List Int)) (([]:List Int)) (([]:List Int)))) z EY vJ z z z K z z (fun _=>Pf (AD.nil _ _ _) (AD.nil _ _ _) (AD.nil _ _ _))) ?_;rintro r L ⟨A,s,f0,g0,B,t⟩;have h0:=B.size;have t:=AB.toN t s;have g:=BP s;clear s;refine Ro 10 (WC.loopD (fun f h wl=>∃(c:Int) (d:List Ab),Kn 23 [(0,m),(3,r),(4,.i c)] h∧AH w wl∧L.heap.size<=wl.heap.size∧AB C_Table wl (A) (SX (A) wl.heap.size r) 253 d r∧Lh n k (fun c d=>(some d)) f c d=some l) n ?_ ?_)
 ·intro h hK;exact⟨0,(List.replicate J ((Ab.mk (([]:List Int)) (([]:List Int)) (([]:List Int))))),hK.sub z,B,nr,(AB.wideN t),hF⟩
 ·rintro f h i0 ⟨c,d,hK,i,j0,j,hF⟩;refine Bp hK ?_;rcases f with _|f;exact Bm hF;rw [Lh.eq_2]at hF;refine Rc 5 (Yl z (CB z Pk (o.oj i)) (Ro 3 (Wc z hF ?_ ?_)))
  ·intro hF;refine Rc 9 (Ix hF (o.oj i) Pk Rv ?_);rintro k0 l0 hF _ ⟨m0,n0,o0,rfl,p0,M,N⟩;obtain⟨O,P,Q,rfl,R,S,T⟩:=Ci M;refine Yl z (CQ (us:=[O,P,Q]) z eY N Rv) ?_;refine Cg hF vK (fun _ a=>(AkP a (by omega) R S T:)) ?_;rintro C hF _ U ⟨V,W,X,rfl,u,v,x,q0,r0,s0,D⟩;have⟨Y,t0⟩:=Et i D;have j:=j.extN D (by omega);have u0:=AB.blk u;have v0:=AB.blk v;have w0:=AB.blk x;have E:=AB.wideN (hi':=U.heap.size) j;refine Io hF E EY DI ?_;rintro x0 Z hF _ ⟨y0,z0,rfl,y,F,a0⟩;have b0:=F;obtain⟨A0,B0,C0,rfl,D0,E0,F0⟩:=Ci F;refine Ef z (Ae (c:=C_Table) (us':=[V,W,X]) (y':=C) 0 _ z z z E y Z z DI (AC u.one (AC v.one (AC x.one Az))) b0 a0 z z (Pf ((AB.slf u nr nr).mono (fun e a=>⟨by have:=a.1;omega,by have:=a.2;omega,fun b=>by have:=g e b;have:=a.1;have:=a.2;omega⟩) (fun _ _=>z)) ((AB.slf v nr nr).mono (fun e a=>⟨by have:=a.1;omega,by have:=a.2;omega,fun b=>by have:=g e b;have:=a.1;have:=a.2;omega⟩) (fun _ _=>z)) ((AB.slf x nr nr).mono (fun e a=>⟨by have:=a.1;omega,by have:=a.2;omega,fun b=>by have:=g e b;have:=a.1;have:=a.2;omega⟩) (fun _ _=>z))) (fun e a b=>a.2.2 (b▸y))) ?_;rintro _ G0 ⟨c0,d0⟩;have⟨e0,H0⟩:=Eu Y c0 (by have:=g _ y;omega);refine Ro 9 ?_;intro h hK;exact⟨f,nr,(wrap .i64 (c+1)),((d.set (c).toNat C)),hK.sub z,e0,(by omega),(AB.wideN d0),hF⟩
  ·intro hF;cases BM hF;exact Rc 12 (Ne z z ⟨_,z,_,z,AB.baseN (AB.wideN j),i⟩)
def YN(n:Nat)(a0:Aq):Option Aq:=(YB n a0.Delay).bind fun b=>(YB n a0.Slew).bind fun a=>some ((Aq.mk a0.Kind a0.From a0.To a0.Sense b a))
theorem AhA{f g:Aq}{p q:Value}(h:YN n f=some g)(b0:H<=w.heap.size)(I:AS C_Table w H f.Delay p)(J:AS C_Table w H f.Slew q):
 Calls prog 204 [.agg #[.i f.Kind,.i f.From,.i f.To,.i f.Sense,p,q]].toArray w (DM fun K i=>∃j k,K= .agg #[.i g.Kind,.i g.From,.i g.To,.i g.Sense,j,k]∧AB C_Table i w.heap.size (SX w.heap.size i.heap.size j) 253 g.Delay j∧AB C_Table i w.heap.size (SX w.heap.size i.heap.size k) 253 g.Slew k∧No k j∧AH w i):=by
 unfold YN at h;refine AA func204 z ntmps204 (Rc 2 (Ef z (AF z z) ?_));rintro _ c0 ⟨d0,rfl,e0,f0,r,a⟩;have g0:=r.size;refine Ef z (AV z JC) ?_;rintro _ h0 ⟨i0,rfl,j0,k0,s,b⟩;have⟨L,l0⟩:=Et r s;have a:=a.ext s;refine Ro 4 (Ef z (AV z JC) ?_);rintro _ m0 ⟨n0,rfl,o0,p0,t,c⟩;have⟨M,q0⟩:=Et L t;have⟨a,b⟩:=Bs a b t;refine Ro 4 (Fl Zj AK a (Yl z (BI z Cz) (Ef z (CD z c Al z z) ?_)));rintro _ r0 ⟨u,N⟩;have⟨O,s0⟩:=Eu M u;have⟨a,b⟩:=IQ a b u;have c:=N;refine Ro 4 (Fl ZJ AK a (Yl z (BI z Cd) (Ef z (CD z c Al z z) ?_)));rintro _ t0 ⟨v,P⟩;have⟨Q,u0⟩:=Eu O v;have⟨a,b⟩:=IQ a b v;have c:=P;refine Ro 4 (Fl dZ AK a (Yl z (BI z By) (Ef z (CD z c Al z z) ?_)));rintro _ v0 ⟨x,R⟩;have⟨S,w0⟩:=Eu Q x;have⟨a,b⟩:=IQ a b x;have c:=R;refine Ro 4 (Fl iA AK a (Yl z (BI z Cc) (Ef z (CD z c Al z z) ?_)));rintro _ x0 ⟨y,T⟩;have⟨A,y0⟩:=Eu S y;have⟨a,b⟩:=IQ a b y;have c:=T;refine Ro 4 (Fl SL Rq a ?_);refine Cg h gJ (fun _ m=>(AaY m (by omega) (I.oj A):)) ?_;rintro z0 h A0 B0 ⟨_,rfl,d,B⟩;have⟨U,C0⟩:=Et A B;have⟨a,b,c⟩:=DR a b c B;have l:=AB.blk d;refine Yl z (BI z Dq) (Ef z (BV z z z c bG (AD.cells (AB.slN d nr nr)) (AD.one (AB.slN d nr nr)) z) ?_);rintro _ D0 ⟨C,V⟩;have⟨D,E0⟩:=Eu U C;have⟨a,b,d⟩:=JT a b (BT d l) C;have c:=V;refine Ro 4 (Fl Sa Rq a ?_);refine Cg h gJ (fun _ m=>(AaY m (by omega) (J.oj D):)) ?_;rintro F0 h G0 H0 ⟨_,rfl,e,E⟩;have⟨W,I0⟩:=Et D E;have⟨b,c,d⟩:=DR b c d E;have o:=AB.blk e;refine Yl z (BI z Dp) (Ef z (BV z z z c bG (AD.cells (AB.slN e nr nr)) (AD.one (AB.slN e nr nr)) z) ?_);rintro _ J0 ⟨F,X⟩;have⟨Y,K0⟩:=Eu W F;have⟨b,d,e⟩:=JT b (BT d l) (BT e o) F;have c:=X;refine Ro 4 (Yl z (BY z En c BU) (Ef z (CD z b BU (AC z (AC z (AC z (AC z (AC (AD.one (AB.slN d nr nr)) (AC (AD.one (AB.slN e nr nr)) Az)))))) z) ?_));rintro _ L0 ⟨G,Z⟩;have⟨a0,M0⟩:=Eu Y G;have⟨d,e⟩:=IQ (BT d l) (BT e o) G;have b:=Z;cases BM h;exact Ro 3 (UW b En BU ⟨_,z,_,_,z,AB.baseN (AB.wideN d),AB.baseN (AB.wideN e),(No.of o l),a0⟩)
def Lb(n:Nat)(a0:List Aq)(k0:Int->(List Aq)->Option (List Aq)):Nat->Int->(List Aq)->Option (List Aq)
 |0,_,_=>none
 |m+1,a,b=>cond (decide (a<(a0.length:Int))) ((AE a0 a).bind fun c=>(YN n c).bind fun d=>(AE b a).bind fun e=>Lb n a0 k0 m (wrap .i64 (a+1)) ((b.set (a).toNat d))) (k0 a b)
def fB(n:Nat)(a0:List Aq):Option (List Aq):=(KG ((a0.length:Int)) 80).bind fun b=>Lb n a0 (fun c a=>some a) n 0 (List.replicate b ((Aq.mk 0 0 0 0 (([]:List Ab)) (([]:List Ab)))))
theorem AeQ{l m:List Aq}{o:Value}(hF:fB n l=some m)(hH:H<=w.heap.size)(p:AS C_Arc w H l o):
 Calls prog 170 [o].toArray w (DM fun G q=>∃r,G=r∧AB C_Arc q w.heap.size (SX w.heap.size q.heap.size r) 143 m r∧AH w q):=by
 have I:=AH.refl w;unfold fB at hF;refine AA func170 z ntmps170 (Rc 8 (Yl z (CB z PO (p.oj I)) ?_));have⟨J,K,hF⟩:=AG hF;refine Ef z (Bt (c:=C_Arc) (z:=(Aq.mk 0 0 0 0 (([]:List Ab)) (([]:List Ab)))) z Ch wX z z z K z z (fun _=>SQ (AD.nil _ _ _) (AD.nil _ _ _))) ?_;rintro s L ⟨B,t,c0,d0,C,u⟩;have e0:=C.size;have u:=AB.toN u t;have v:=BP t;clear t;refine Ro 10 (WC.loopD (fun e g wl=>∃(b:Int) (c:List Aq),Kn 23 [(0,o),(3,s),(4,.i b)] g∧AH w wl∧L.heap.size<=wl.heap.size∧AB C_Arc wl (B) (SX (B) wl.heap.size s) 143 c s∧Lb n l (fun b c=>(some c)) e b c=some m) n ?_ ?_)
 ·intro g hK;exact⟨0,(List.replicate J ((Aq.mk 0 0 0 0 (([]:List Ab)) (([]:List Ab))))),hK.sub z,C,nr,(AB.wideN u),hF⟩
 ·rintro e g f0 ⟨b,c,hK,h,g0,i,hF⟩;refine Bp hK ?_;rcases e with _|e;exact Bm hF;rw [Lb.eq_2]at hF;refine Rc 5 (Yl z (CB z PO (p.oj h)) (Ro 3 (Wc z hF ?_ ?_)))
  ·intro hF;refine Rc 9 (Ix hF (p.oj h) PO RG ?_);rintro j h0 hF _ ⟨i0,j0,k0,rfl,l0,M,N⟩;obtain⟨O,P,rfl,Q,R⟩:=Bj M;refine Yl z (CQ (us:=[.i j.Kind,.i j.From,.i j.To,.i j.Sense,O,P]) z dU N RG) ?_;refine Cg hF rT (fun _ a=>(AhA a (by omega) Q R:)) ?_;rintro d hF _ S ⟨T,U,rfl,x,y,m0,D⟩;have⟨V,n0⟩:=Et h D;have i:=i.extN D (by omega);have o0:=AB.blk x;have p0:=AB.blk y;have E:=AB.wideN (hi':=S.heap.size) i;refine Io hF E Ch BU ?_;rintro q0 W hF _ ⟨r0,s0,rfl,A,F,X⟩;have Y:=F;obtain⟨t0,u0,rfl,v0,w0⟩:=Bj F;refine Ef z (Ae (c:=C_Arc) (us':=[.i d.Kind,.i d.From,.i d.To,.i d.Sense,T,U]) (y':=d) 0 _ z z z E A W z BU (AC z (AC z (AC z (AC z (AC (AD.one (AB.slN x nr nr)) (AC (AD.one (AB.slN y nr nr)) Az)))))) Y X z z (SQ ((AB.slN x nr nr).mono (fun k a=>⟨by have:=a.1;omega,by have:=a.2;omega,fun f=>by have:=v k f;have:=a.1;have:=a.2;omega⟩) (fun _ _=>z)) ((AB.slN y nr nr).mono (fun k a=>⟨by have:=a.1;omega,by have:=a.2;omega,fun f=>by have:=v k f;have:=a.1;have:=a.2;omega⟩) (fun _ _=>z))) (fun k a f=>a.2.2 (f▸A))) ?_;rintro _ x0 ⟨Z,a0⟩;have⟨b0,y0⟩:=Eu V Z (by have:=v _ A;omega);refine Ro 9 ?_;intro g hK;exact⟨e,nr,(wrap .i64 (b+1)),((c.set (b).toNat d)),hK.sub z,b0,(by omega),(AB.wideN a0),hF⟩
  ·intro hF;cases BM hF;exact Rc 12 (Ne z z ⟨_,z,_,z,AB.baseN (AB.wideN i),h⟩)
def XU(n:Nat)(a0:Af):Option Af:=(Yt n a0.Pins).bind fun b=>(fB n a0.Arcs).bind fun a=>(TK n a0.Truth).bind fun c=>some ((Af.mk a0.Name a0.Kind b a c a0.Leak a0.Energy))
theorem AfQ{g h:Af}{s t u:Value}(i:XU n g=some h)(l0:H<=w.heap.size)(P:AS C_Pin w H g.Pins s)(Q:AS C_Arc w H g.Arcs t)(R:AS (AI .i64) w H g.Truth u):
 Calls prog 120 [.agg #[.string g.Name,.i g.Kind,s,t,u,.i g.Leak,.i g.Energy]].toArray w (DM fun S m=>∃q o r,S= .agg #[.string h.Name,.i h.Kind,q,o,r,.i h.Leak,.i h.Energy]∧AB C_Pin m w.heap.size (Iv 0 0) 279 h.Pins q∧AB C_Arc m w.heap.size (SX w.heap.size m.heap.size o) 143 h.Arcs o∧AB (AI .i64) m w.heap.size (Iv 0 0) 2 h.Truth r∧No o q∧No r q∧No r o∧AH w m):=by
 unfold XU at i;refine AA func120 z ntmps120 (Rc 2 (Ef z (AF z z) ?_));rintro _ m0 ⟨n0,rfl,o0,p0,v,a⟩;have q0:=v.size;refine Ef z (AV z Ux) ?_;rintro _ r0 ⟨s0,rfl,t0,u0,x,b⟩;have⟨T,v0⟩:=Et v x;have a:=a.ext x;refine Ro 4 (Ef z (AV z Ux) ?_);rintro _ w0 ⟨x0,rfl,y0,z0,y,c⟩;have⟨U,A0⟩:=Et T y;have⟨a,b⟩:=Bs a b y;refine Ro 4 (Fl Tv Dy a (Yl z (BI z Fb) (Ef z (CD z c HV z z) ?_)));rintro _ B0 ⟨A,V⟩;have⟨W,C0⟩:=Eu U A;have⟨a,b⟩:=IQ a b A;have c:=V;refine Ro 4 (Fl aA AK a (Yl z (BI z In) (Ef z (CD z c Al z z) ?_)));rintro _ D0 ⟨B,X⟩;have⟨C,E0⟩:=Eu W B;have⟨a,b⟩:=IQ a b B;have c:=X;refine Ro 4 (Fl Su ZU a ?_);refine Cg i rA (fun _ p=>(AeH p (by omega) (P.oj C):)) ?_;rintro F0 i G0 H0 ⟨_,rfl,d,D⟩;have⟨Y,I0⟩:=Et C D;have⟨a,b,c⟩:=DR a b c D;have j:=AB.blk d;refine Yl z (BI z Bu) (Ef z (BV z z z c wK d.cells d.one z) ?_);rintro _ J0 ⟨E,Z⟩;have⟨F,K0⟩:=Eu Y E;have⟨a,b,d⟩:=JT a b (BT d j) E;have c:=Z;refine Ro 4 (Fl Tj dJ a ?_);refine Cg i qA (fun _ p=>(AeQ p (by omega) (Q.oj F):)) ?_;rintro L0 i M0 N0 ⟨_,rfl,e,G⟩;have⟨a0,O0⟩:=Et F G;have⟨a,b,c,d⟩:=EU a b c d G;have k:=AB.blk e;refine Yl z (BI z CX) (Ef z (BV z z z c sF (AD.cells (AB.slN e nr nr)) (AD.one (AB.slN e nr nr)) z) ?_);rintro _ P0 ⟨I,b0⟩;have⟨J,Q0⟩:=Eu a0 I;have⟨a,b,d,e⟩:=Od a b (BT d j) (BT e k) I;have c:=b0;refine Ro 4 (Fl SW Ah a ?_);refine Cg i IY (fun _ p=>(Xu p (by omega) (R.oj J):)) ?_;rintro R0 i S0 T0 ⟨_,rfl,f,K⟩;have⟨c0,U0⟩:=Et J K;have⟨a,b,c,d,e⟩:=GF a b c d e K;have l:=AB.blk f;refine Yl z (BI z EC) (Ef z (BV z z z c HA f.cells f.one z) ?_);rintro _ V0 ⟨L,d0⟩;have⟨e0,W0⟩:=Eu c0 L;have⟨a,b,d,e,f⟩:=Qg a b (BT d j) (BT e k) (BT f l) L;have c:=d0;refine Ro 4 (Fl ZA AK a (Yl z (BI z Ia) (Ef z (CD z c Al z z) ?_)));rintro _ X0 ⟨M,f0⟩;have⟨g0,Y0⟩:=Eu e0 M;have⟨a,b,d,e,f⟩:=Qg a b (BT d j) (BT e k) (BT f l) M;have c:=f0;refine Ro 4 (Fl iG AK a (Yl z (BI z Ie) (Ef z (CD z c Al z z) ?_)));rintro _ Z0 ⟨N,h0⟩;have⟨i0,a1⟩:=Eu g0 N;have⟨b,d,e,f⟩:=Od b (BT d j) (BT e k) (BT f l) N;have c:=h0;refine Ro 4 (Yl z (BY z DO c BW) (Ef z (CD z b BW (AC z (AC z (AC d.one (AC (AD.one (AB.slN e nr nr)) (AC f.one (AC z (AC z Az))))))) z) ?_));rintro _ b1 ⟨O,j0⟩;have⟨k0,c1⟩:=Eu i0 O;have⟨d,e,f⟩:=JT (BT d j) (BT e k) (BT f l) O;have b:=j0;cases BM i;exact Ro 3 (UW b DO BW ⟨_,z,_,_,_,z,AB.base d,AB.baseN (AB.wideN e),AB.base f,(No.of k j),(No.of l j),(No.of l k),k0⟩)
def LY(n:Nat)(a0:List Af)(k0:Int->(List Af)->Option (List Af)):Nat->Int->(List Af)->Option (List Af)
 |0,_,_=>none
 |m+1,a,b=>cond (decide (a<(a0.length:Int))) ((AE a0 a).bind fun c=>(XU n c).bind fun d=>(AE b a).bind fun e=>LY n a0 k0 m (wrap .i64 (a+1)) ((b.set (a).toNat d))) (k0 a b)
def Yc(n:Nat)(a0:List Af):Option (List Af):=(KG ((a0.length:Int)) 112).bind fun b=>LY n a0 (fun c a=>some a) n 0 (List.replicate b ((Af.mk ByteArray.empty 0 (([]:List BQ)) (([]:List Aq)) (([]:List Int)) 0 0)))
theorem AlF{m o:List Af}{p:Value}(hF:Yc n m=some o)(hH:H<=w.heap.size)(q:AS C_Cell w H m p):
 Calls prog 78 [p].toArray w (DM fun I r=>∃s,I=s∧AB C_Cell r w.heap.size (SX w.heap.size r.heap.size s) 138 o s∧AH w r):=by
 have J:=AH.refl w;unfold Yc at hF;refine AA func78 z ntmps78 (Rc 8 (Yl z (CB z UR (q.oj J)) ?_));have⟨K,L,hF⟩:=AG hF;refine Ef z (Bt (c:=C_Cell) (z:=(Af.mk ByteArray.empty 0 (([]:List BQ)) (([]:List Aq)) (([]:List Int)) 0 0)) z Ex qI z z z L z z (fun _=>Qf (AD.nil _ _ _) (AD.nil _ _ _) (AD.nil _ _ _))) ?_;rintro t M ⟨C,u,g0,h0,D,v⟩;have i0:=D.size;have v:=AB.toN v u;have h:=BP u;clear u;refine Ro 10 (WC.loopD (fun g i wl=>∃(c:Int) (d:List Af),Kn 23 [(0,p),(3,t),(4,.i c)] i∧AH w wl∧M.heap.size<=wl.heap.size∧AB C_Cell wl (C) (SX (C) wl.heap.size t) 138 d t∧LY n m (fun c d=>(some d)) g c d=some o) n ?_ ?_)
 ·intro i hK;exact⟨0,(List.replicate K ((Af.mk ByteArray.empty 0 (([]:List BQ)) (([]:List Aq)) (([]:List Int)) 0 0))),hK.sub z,D,nr,(AB.wideN v),hF⟩
 ·rintro g i j0 ⟨c,d,hK,j,k0,k,hF⟩;refine Bp hK ?_;rcases g with _|g;exact Bm hF;rw [LY.eq_2]at hF;refine Rc 5 (Yl z (CB z UR (q.oj j)) (Ro 3 (Wc z hF ?_ ?_)))
  ·intro hF;refine Rc 9 (Ix hF (q.oj j) UR RO ?_);rintro l l0 hF _ ⟨m0,n0,o0,rfl,p0,N,O⟩;obtain⟨P,Q,R,rfl,S,T,U⟩:=Bo N;refine Yl z (CQ (us:=[.string l.Name,.i l.Kind,P,Q,R,.i l.Leak,.i l.Energy]) z iE O RO) ?_;refine Cg hF qC (fun _ a=>(AfQ a (by omega) S T U:)) ?_;rintro e hF _ V ⟨W,X,Y,rfl,x,y,A,q0,r0,s0,E⟩;have⟨Z,t0⟩:=Et j E;have k:=k.extN E (by omega);have u0:=AB.blk x;have v0:=AB.blk y;have w0:=AB.blk A;have F:=AB.wideN (hi':=V.heap.size) k;refine Io hF F Ex BW ?_;rintro x0 a0 hF _ ⟨y0,z0,rfl,B,G,b0⟩;have c0:=G;obtain⟨A0,B0,C0,rfl,D0,E0,F0⟩:=Bo G;refine Ef z (Ae (c:=C_Cell) (us':=[.string e.Name,.i e.Kind,W,X,Y,.i e.Leak,.i e.Energy]) (y':=e) 0 _ z z z F B a0 z BW (AC z (AC z (AC x.one (AC (AD.one (AB.slN y nr nr)) (AC A.one (AC z (AC z Az))))))) c0 b0 z z (Qf ((AB.slf x nr nr).mono (fun f a=>⟨by have:=a.1;omega,by have:=a.2;omega,fun b=>by have:=h f b;have:=a.1;have:=a.2;omega⟩) (fun _ _=>z)) ((AB.slN y nr nr).mono (fun f a=>⟨by have:=a.1;omega,by have:=a.2;omega,fun b=>by have:=h f b;have:=a.1;have:=a.2;omega⟩) (fun _ _=>z)) ((AB.slf A nr nr).mono (fun f a=>⟨by have:=a.1;omega,by have:=a.2;omega,fun b=>by have:=h f b;have:=a.1;have:=a.2;omega⟩) (fun _ _=>z))) (fun f a b=>a.2.2 (b▸B))) ?_;rintro _ G0 ⟨d0,e0⟩;have⟨f0,H0⟩:=Eu Z d0 (by have:=h _ B;omega);refine Ro 9 ?_;intro i hK;exact⟨g,nr,(wrap .i64 (c+1)),((d.set (c).toNat e)),hK.sub z,f0,(by omega),(AB.wideN e0),hF⟩
  ·intro hF;cases BM hF;exact Rc 12 (Ne z z ⟨_,z,_,z,AB.baseN (AB.wideN k),j⟩)
def eO(n:Nat)(a0:Ad):Option Ad:=(Yc n a0.Cells).bind fun a=>some ((Ad.mk a))
theorem AjI{g h:Ad}{i:Value}(hF:eO n g=some h)(hH:H<=w.heap.size)(s:AS C_Cell w H g.Cells i):
 Calls prog 37 [.agg #[i]].toArray w (DM fun t e=>∃f,t= .agg #[f]∧AB C_Cell e w.heap.size (SX w.heap.size e.heap.size f) 138 h.Cells f∧AH w e):=by
 unfold eO at hF;refine AA func37 z ntmps37 (Rc 2 (Ef z (AF z z) ?_));rintro _ D ⟨E,rfl,F,G,j,c⟩;have I:=j.size;refine Ef z (AV z oH) ?_;rintro _ J ⟨K,rfl,L,M,k,a⟩;have⟨u,N⟩:=Et j k;have c:=c.ext k;refine Ro 4 (Ef z (AV z oH) ?_);rintro _ O ⟨P,rfl,Q,R,l,d⟩;have⟨m,S⟩:=Et u l;have⟨c,a⟩:=Bs c a l;refine Ro 4 (Fl Ws nT c ?_);refine Cg hF AbU (fun _ v=>(AlF v (by omega) (s.oj m):)) ?_;rintro T hF U V ⟨_,rfl,b,o⟩;have⟨x,W⟩:=Et m o;have⟨a,d⟩:=Bs a d o;have p:=AB.blk b;refine Yl z (BI z DD) (Ef z (BV z z z d yV (AD.cells (AB.slN b nr nr)) (AD.one (AB.slN b nr nr)) z) ?_);rintro _ X ⟨q,y⟩;have⟨A,Y⟩:=Eu x q;have⟨a,b⟩:=IQ a (BT b p) q;have d:=y;refine Ro 4 (Yl z (BY z Ib d Hb) (Ef z (CD z a Hb (AC (AD.one (AB.slN b nr nr)) Az) z) ?_));rintro _ Z ⟨r,B⟩;have⟨C,a0⟩:=Eu A r;have b:=kC (BT b p) r;have a:=B;cases BM hF;exact Ro 3 (UW a Ib Hb ⟨_,z,_,z,AB.baseN (AB.wideN b),C⟩)
def XR(n:Nat)(a0:AX):Option AX:=(TK n a0.Nets).bind fun a=>some ((AX.mk a0.Name a0.Cell a))
theorem AgN{e f:AX}{g:Value}(hF:XR n e=some f)(hH:H<=w.heap.size)(u:AS (AI .i64) w H e.Nets g):
 Calls prog 121 [.agg #[.string e.Name,.i e.Cell,g]].toArray w (DM fun v h=>∃i,v= .agg #[.string f.Name,.i f.Cell,i]∧AB (AI .i64) h w.heap.size (Iv 0 0) 2 f.Nets i∧AH w h):=by
 unfold XR at hF;refine AA func121 z ntmps121 (Rc 2 (Ef z (AF z z) ?_));rintro _ K ⟨L,rfl,M,N,j,b⟩;have O:=j.size;refine Ef z (AV z LA) ?_;rintro _ P ⟨Q,rfl,R,S,k,a⟩;have⟨x,T⟩:=Et j k;have b:=b.ext k;refine Ro 4 (Ef z (AV z LA) ?_);rintro _ U ⟨V,rfl,W,X,l,c⟩;have⟨y,Y⟩:=Et x l;have⟨b,a⟩:=Bs b a l;refine Ro 4 (Fl Te Dy b (Yl z (BI z IS) (Ef z (CD z c HV z z) ?_)));rintro _ Z ⟨m,A⟩;have⟨B,a0⟩:=Eu y m;have⟨b,a⟩:=IQ b a m;have c:=A;refine Ro 4 (Fl Za AK b (Yl z (BI z Ds) (Ef z (CD z c Al z z) ?_)));rintro _ b0 ⟨o,C⟩;have⟨p,c0⟩:=Eu B o;have⟨b,a⟩:=IQ b a o;have c:=C;refine Ro 4 (Fl SY Ah b ?_);refine Cg hF IY (fun _ D=>(Xu D (by omega) (u.oj p):)) ?_;rintro d0 hF e0 f0 ⟨_,rfl,d,q⟩;have⟨E,g0⟩:=Et p q;have⟨a,c⟩:=Bs a c q;have r:=AB.blk d;refine Yl z (BI z DU) (Ef z (BV z z z c HA d.cells d.one z) ?_);rintro _ h0 ⟨s,F⟩;have⟨G,i0⟩:=Eu E s;have⟨a,d⟩:=IQ a (BT d r) s;have c:=F;refine Ro 4 (Yl z (BY z Gm c Br) (Ef z (CD z a Br (AC z (AC z (AC d.one Az))) z) ?_));rintro _ j0 ⟨t,I⟩;have⟨J,k0⟩:=Eu G t;have d:=kC (BT d r) t;have a:=I;cases BM hF;exact Ro 3 (UW a Gm Br ⟨_,z,_,z,AB.base d,J⟩)
def LS(n:Nat)(a0:List AX)(k0:Int->(List AX)->Option (List AX)):Nat->Int->(List AX)->Option (List AX)
 |0,_,_=>none
 |m+1,a,b=>cond (decide (a<(a0.length:Int))) ((AE a0 a).bind fun c=>(XR n c).bind fun d=>(AE b a).bind fun e=>LS n a0 k0 m (wrap .i64 (a+1)) ((b.set (a).toNat d))) (k0 a b)
def gK(n:Nat)(a0:List AX):Option (List AX):=(KG ((a0.length:Int)) 48).bind fun b=>LS n a0 (fun c a=>some a) n 0 (List.replicate b ((AX.mk ByteArray.empty 0 (([]:List Int)))))
theorem AiQ{i j:List AX}{k:Value}(hF:gK n i=some j)(hH:H<=w.heap.size)(l:AS C_Instance w H i k):
 Calls prog 79 [k].toArray w (DM fun F m=>∃o,F=o∧AB C_Instance m w.heap.size (SX w.heap.size m.heap.size o) 140 j o∧AH w m):=by
 have G:=AH.refl w;unfold gK at hF;refine AA func79 z ntmps79 (Rc 8 (Yl z (CB z Vl (l.oj G)) ?_));have⟨I,J,hF⟩:=AG hF;refine Ef z (Bt (c:=C_Instance) (z:=(AX.mk ByteArray.empty 0 (([]:List Int)))) z Ev rD z z z J z z (fun _=>MI (AD.nil _ _ _))) ?_;rintro p K ⟨v,q,Y,Z,x,r⟩;have a0:=x.size;have r:=AB.toN r q;have y:=BP q;clear q;refine Ro 10 (WC.loopD (fun d e wl=>∃(b:Int) (c:List AX),Kn 23 [(0,k),(3,p),(4,.i b)] e∧AH w wl∧K.heap.size<=wl.heap.size∧AB C_Instance wl (v) (SX (v) wl.heap.size p) 140 c p∧LS n i (fun b c=>(some c)) d b c=some j) n ?_ ?_)
 ·intro e hK;exact⟨0,(List.replicate I ((AX.mk ByteArray.empty 0 (([]:List Int))))),hK.sub z,x,nr,(AB.wideN r),hF⟩
 ·rintro d e b0 ⟨b,c,hK,f,c0,g,hF⟩;refine Bp hK ?_;rcases d with _|d;exact Bm hF;rw [LS.eq_2]at hF;refine Rc 5 (Yl z (CB z Vl (l.oj f)) (Ro 3 (Wc z hF ?_ ?_)))
  ·intro hF;refine Rc 9 (Ix hF (l.oj f) Vl Qo ?_);rintro A d0 hF _ ⟨e0,f0,g0,rfl,h0,L,M⟩;obtain⟨N,rfl,O⟩:=BJ L;refine Yl z (CQ (us:=[.string A.Name,.i A.Cell,N]) z ZE M Qo) ?_;refine Cg hF sK (fun _ a=>(AgN a (by omega) O:)) ?_;rintro h hF _ P ⟨Q,rfl,s,B⟩;have⟨R,i0⟩:=Et f B;have g:=g.extN B (by omega);have j0:=AB.blk s;have C:=AB.wideN (hi':=P.heap.size) g;refine Io hF C Ev Br ?_;rintro k0 S hF _ ⟨l0,m0,rfl,t,D,T⟩;have U:=D;obtain⟨n0,rfl,o0⟩:=BJ D;refine Ef z (Ae (c:=C_Instance) (us':=[.string h.Name,.i h.Cell,Q]) (y':=h) 0 _ z z z C t S z Br (AC z (AC z (AC s.one Az))) U T z z (MI ((AB.slf s nr nr).mono (fun E a=>⟨by have:=a.1;omega,by have:=a.2;omega,fun u=>by have:=y E u;have:=a.1;have:=a.2;omega⟩) (fun _ _=>z))) (fun E a u=>a.2.2 (u▸t))) ?_;rintro _ p0 ⟨V,W⟩;have⟨X,q0⟩:=Eu R V (by have:=y _ t;omega);refine Ro 9 ?_;intro e hK;exact⟨d,nr,(wrap .i64 (b+1)),((c.set (b).toNat h)),hK.sub z,X,(by omega),(AB.wideN W),hF⟩
  ·intro hF;cases BM hF;exact Rc 12 (Ne z z ⟨_,z,_,z,AB.baseN (AB.wideN g),f⟩)
def Lu(a0:List ByteArray)(k0:Int->(List ByteArray)->Option (List ByteArray)):Nat->Int->(List ByteArray)->Option (List ByteArray)
 |0,_,_=>none
 |m+1,a,b=>cond (decide (a<(a0.length:Int))) ((AE a0 a).bind fun c=>(AE b a).bind fun d=>Lu a0 k0 m (wrap .i64 (a+1)) ((b.set (a).toNat c))) (k0 a b)
def dO(n:Nat)(a0:List ByteArray):Option (List ByteArray):=(KG ((a0.length:Int)) 16).bind fun b=>Lu a0 (fun c a=>some a) n 0 (List.replicate b ByteArray.empty)
theorem AkR{h i:List ByteArray}{j:Value}(a:dO n h=some i)(O:H<=w.heap.size)(k:AS Au w H h j):
 Calls prog 80 [j].toArray w (DM fun v o=>∃p,v=p∧AB Au o w.heap.size (Iv 0 0) 9 i p∧AH w o):=by
 have x:=AH.refl w;unfold dO at a;refine AA func80 z ntmps80 (Rc 8 (Yl z (CB z DV (k.oj x)) ?_));have⟨y,A,a⟩:=AG a;refine Ef z (Bt (c:=Au) (z:=ByteArray.empty) z DV MP z z z A z z (fun _=>z)) ?_;rintro q B ⟨C,r,P,Q,s,D⟩;have R:=s.size;have E:=BP r;clear r;refine Ro 10 (WC.loopD (fun d f wl=>∃(b:Int) (c:List ByteArray),Kn 22 [(0,j),(3,q),(4,.i b)] f∧AH w wl∧B.heap.size<=wl.heap.size∧AB Au wl (C) (Iv 0 0) 9 c q∧Lu h (fun b c=>(some c)) d b c=some i) n ?_ ?_)
 ·intro f e;exact⟨0,(List.replicate y ByteArray.empty),e.sub z,s,nr,D,a⟩
 ·rintro d f S ⟨b,c,e,g,T,l,a⟩;refine Bp e ?_;rcases d with _|d;exact Bm a;rw [Lu.eq_2]at a;refine Rc 5 (Yl z (CB z DV (k.oj g)) (Ro 3 (Wc z a ?_ ?_)))
  ·intro a;refine Rc 9 (Il a (k.oj g) DV HV Dy ?_);rintro m a _;refine Io a l DV HV ?_;rintro U F a _ ⟨V,W,rfl,t,u,G⟩;have I:=u;obtain rfl:=u;refine Ef z (Ae (c:=Au) (us':=[.string m]) (y':=m) 0 _ z z z l t F z HV z I G z z z (fun J K=>absurd K.2 (Nat.not_lt_zero J))) ?_;rintro _ X ⟨L,M⟩;have⟨N,Y⟩:=Eu g L (by have:=E _ t;omega);refine Ro 9 ?_;intro f e;exact⟨d,nr,(wrap .i64 (b+1)),((c.set (b).toNat m)),e.sub z,N,(by omega),M,a⟩
  ·intro a;cases BM a;exact Rc 12 (Ne z z ⟨_,z,_,z,AB.base l,g⟩)
def Yz(n:Nat)(a0:BN):Option BN:=some a0
theorem AjH{d e:BN}(f:Yz n d=some e):
 Calls prog 122 [.agg #[.string d.Name,.i d.Dir,.i d.Net]].toArray w (DM fun m g=>m= .agg #[.string e.Name,.i e.Dir,.i e.Net]∧AH w g):=by
 unfold Yz at f;refine AA func122 z ntmps122 (Rc 2 (Ef z (AF z z) ?_));rintro _ g ⟨B,rfl,C,D,h,a⟩;have E:=h.size;refine Ef z (AV z PS) ?_;rintro _ F ⟨G,rfl,I,J,i,b⟩;have⟨o,K⟩:=Et h i;have a:=a.ext i;refine Ro 4 (Ef z (AV z PS) ?_);rintro _ L ⟨M,rfl,N,O,j,c⟩;have⟨p,P⟩:=Et o j;have⟨a,b⟩:=Bs a b j;refine Ro 4 (Fl TQ Dy a (Yl z (BI z Im) (Ef z (CD z c HV z z) ?_)));rintro _ Q ⟨k,q⟩;have⟨r,R⟩:=Eu p k;have⟨a,b⟩:=IQ a b k;have c:=q;refine Ro 4 (Fl dL AK a (Yl z (BI z Ej) (Ef z (CD z c Al z z) ?_)));rintro _ S ⟨H,s⟩;have⟨t,T⟩:=Eu r H;have⟨a,b⟩:=IQ a b H;have c:=s;refine Ro 4 (Fl fN AK a (Yl z (BI z FC) (Ef z (CD z c Al z z) ?_)));rintro _ U ⟨l,u⟩;have⟨v,V⟩:=Eu t l;have b:=b.upd l (by omega);have c:=u;refine Ro 4 (Yl z (BY z NC c Cv) (Ef z (CD z b Cv z z) ?_));rintro _ W ⟨x,y⟩;have⟨A,X⟩:=Eu v x;have b:=y;obtain rfl:=(UO f);exact Ro 3 (UW b NC Cv ⟨_,z,z,A⟩)
def LQ(n:Nat)(a0:List BN)(k0:Int->(List BN)->Option (List BN)):Nat->Int->(List BN)->Option (List BN)
 |0,_,_=>none
 |m+1,a,b=>cond (decide (a<(a0.length:Int))) ((AE a0 a).bind fun d=>(Yz n d).bind fun c=>(AE b a).bind fun e=>LQ n a0 k0 m (wrap .i64 (a+1)) ((b.set (a).toNat c))) (k0 a b)
def gS(n:Nat)(a0:List BN):Option (List BN):=(KG ((a0.length:Int)) 32).bind fun b=>LQ n a0 (fun c a=>some a) n 0 (List.replicate b ((BN.mk ByteArray.empty 0 0)))
theorem AjP{h i:List BN}{j:Value}(hF:gS n h=some i)(hH:H<=w.heap.size)(k:AS C_Port w H h j):
 Calls prog 81 [j].toArray w (DM fun x o=>∃p,x=p∧AB C_Port o w.heap.size (Iv 0 0) 206 i p∧AH w o):=by
 have y:=AH.refl w;unfold gS at hF;refine AA func81 z ntmps81 (Rc 8 (Yl z (CB z Vt (k.oj y)) ?_));have⟨A,B,hF⟩:=AG hF;refine Ef z (Bt (c:=C_Port) (z:=(BN.mk ByteArray.empty 0 0)) z FX uU z z z B z z (fun _=>QY)) ?_;rintro q C ⟨D,r,R,S,s,E⟩;have T:=s.size;have F:=BP r;clear r;refine Ro 10 (WC.loopD (fun c f wl=>∃(a:Int) (b:List BN),Kn 23 [(0,j),(3,q),(4,.i a)] f∧AH w wl∧C.heap.size<=wl.heap.size∧AB C_Port wl (D) (Iv 0 0) 206 b q∧LQ n h (fun a b=>(some b)) c a b=some i) n ?_ ?_)
 ·intro f hK;exact⟨0,(List.replicate A ((BN.mk ByteArray.empty 0 0))),hK.sub z,s,nr,E,hF⟩
 ·rintro c f U ⟨a,b,hK,g,V,d,hF⟩;refine Bp hK ?_;rcases c with _|c;exact Bm hF;rw [LQ.eq_2]at hF;refine Rc 5 (Yl z (CB z Vt (k.oj g)) (Ro 3 (Wc z hF ?_ ?_)))
  ·intro hF;refine Rc 9 (Ix hF (k.oj g) Vt RY ?_);rintro l W hF _ ⟨X,Y,Z,rfl,a0,G,I⟩;obtain rfl:=CI G;refine Yl z (CQ (us:=[.string l.Name,.i l.Dir,.i l.Net]) z dC I RY) ?_;refine Cg hF vB (fun _ m=>(AjH m:)) ?_;rintro e hF _ b0 ⟨rfl,t⟩;have⟨J,c0⟩:=Et g t;have d:=d.ext t;refine Io hF d FX Cv ?_;rintro d0 K hF _ ⟨e0,f0,rfl,u,v,L⟩;have M:=v;obtain rfl:=CI v;refine Ef z (Ae (c:=C_Port) (us':=[.string e.Name,.i e.Dir,.i e.Net]) (y':=e) 0 _ z z z d u K z Cv z M L z z QY (fun N m=>absurd m.2 (Nat.not_lt_zero N))) ?_;rintro _ g0 ⟨O,P⟩;have⟨Q,h0⟩:=Eu J O (by have:=F _ u;omega);refine Ro 9 ?_;intro f hK;exact⟨c,nr,(wrap .i64 (a+1)),((b.set (a).toNat e)),hK.sub z,Q,(by omega),P,hF⟩
  ·intro hF;cases BM hF;exact Rc 12 (Ne z z ⟨_,z,_,z,AB.base d,g⟩)
def aP(n:Nat)(a0:AQ):Option AQ:=(gK n a0.Instances).bind fun b=>(dO n a0.Nets).bind fun a=>(gS n a0.Ports).bind fun c=>some ((AQ.mk b a c))
theorem AjJ{m o:AQ}{s t u:Value}(g:aP n m=some o)(Z:H<=w.heap.size)(L:AS C_Instance w H m.Instances s)(M:AS Au w H m.Nets t)(N:AS C_Port w H m.Ports u):
 Calls prog 38 [.agg #[s,t,u]].toArray w (DM fun O i=>∃j p q,O= .agg #[j,p,q]∧AB C_Instance i w.heap.size (SX w.heap.size i.heap.size j) 140 o.Instances j∧AB Au i w.heap.size (Iv 0 0) 9 o.Nets p∧AB C_Port i w.heap.size (Iv 0 0) 206 o.Ports q∧No p j∧No q j∧No q p∧AH w i):=by
 unfold aP at g;refine AA func38 z ntmps38 (Rc 2 (Ef z (AF z z) ?_));rintro _ a0 ⟨b0,rfl,c0,d0,v,c⟩;have e0:=v.size;refine Ef z (AV z Zd) ?_;rintro _ f0 ⟨g0,rfl,h0,i0,x,a⟩;have⟨P,j0⟩:=Et v x;have c:=c.ext x;refine Ro 4 (Ef z (AV z Zd) ?_);rintro _ k0 ⟨l0,rfl,m0,n0,y,d⟩;have⟨A,o0⟩:=Et P y;have⟨c,a⟩:=Bs c a y;refine Ro 4 (Fl Wm oN c ?_);refine Cg g AaC (fun _ k=>(AiQ k (by omega) (L.oj A):)) ?_;rintro p0 g q0 r0 ⟨_,rfl,b,B⟩;have⟨Q,s0⟩:=Et A B;have⟨c,a,d⟩:=DR c a d B;have h:=AB.blk b;refine Yl z (BI z Cb) (Ef z (BV z z z d AaB (AD.cells (AB.slN b nr nr)) (AD.one (AB.slN b nr nr)) z) ?_);rintro _ t0 ⟨C,R⟩;have⟨D,u0⟩:=Eu Q C;have⟨c,a,b⟩:=JT c a (BT b h) C;have d:=R;refine Ro 4 (Fl WL HC c ?_);refine Cg g AcG (fun _ k=>(AkR k (by omega) (M.oj D):)) ?_;rintro v0 g w0 x0 ⟨_,rfl,e,E⟩;have⟨S,y0⟩:=Et D E;have⟨c,a,d,b⟩:=EU c a d b E;have l:=AB.blk e;refine Yl z (BI z EN) (Ef z (BV z z z d zV e.cells e.one z) ?_);rintro _ z0 ⟨F,T⟩;have⟨G,A0⟩:=Eu S F;have⟨c,a,b,e⟩:=Od c a (BT b h) (BT e l) F;have d:=T;refine Ro 4 (Fl WO pJ c ?_);refine Cg g zK (fun _ k=>(AjP k (by omega) (N.oj G):)) ?_;rintro B0 g C0 D0 ⟨_,rfl,f,I⟩;have⟨U,E0⟩:=Et G I;have⟨a,d,b,e⟩:=EU a d b e I;have r:=AB.blk f;refine Yl z (BI z DX) (Ef z (BV z z z d AaS f.cells f.one z) ?_);rintro _ F0 ⟨J,V⟩;have⟨W,G0⟩:=Eu U J;have⟨a,b,e,f⟩:=Od a (BT b h) (BT e l) (BT f r) J;have d:=V;refine Ro 4 (Yl z (BY z DW d DC) (Ef z (CD z a DC (AC (AD.one (AB.slN b nr nr)) (AC e.one (AC f.one Az))) z) ?_));rintro _ H0 ⟨K,X⟩;have⟨Y,I0⟩:=Eu W K;have⟨b,e,f⟩:=JT (BT b h) (BT e l) (BT f r) K;have a:=X;cases BM g;exact Ro 3 (UW a DW DC ⟨_,z,_,_,_,z,AB.baseN (AB.wideN b),AB.base e,AB.base f,(No.of l h),(No.of r h),(No.of r l),Y⟩)
def Xl(n:Nat)(a0:Aw):Option Aw:=(TK n a0.Parent).bind fun a=>(TK n a0.Res).bind fun b=>(TK n a0.Cap).bind fun c=>(TK n a0.Sink).bind fun d=>some ((Aw.mk a b c d))
theorem AkT{m o:Aw}{v x y A:Value}(g:Xl n m=some o)(j0:H<=w.heap.size)(S:AS (AI .i64) w H m.Parent v)(T:AS (AI .i64) w H m.Res x)(U:AS (AI .i64) w H m.Cap y)(V:AS (AI .i64) w H m.Sink A):
 Calls prog 82 [.agg #[v,x,y,A]].toArray w (DM fun W p=>∃q r s t,W= .agg #[q,r,s,t]∧AB (AI .i64) p w.heap.size (Iv 0 0) 2 o.Parent q∧AB (AI .i64) p w.heap.size (Iv 0 0) 2 o.Res r∧AB (AI .i64) p w.heap.size (Iv 0 0) 2 o.Cap s∧AB (AI .i64) p w.heap.size (Iv 0 0) 2 o.Sink t∧No r q∧No s q∧No s r∧No t q∧No t r∧No t s∧AH w p):=by
 unfold Xl at g;refine AA func82 z ntmps82 (Rc 2 (Ef z (AF z z) ?_));rintro _ k0 ⟨l0,rfl,m0,n0,B,c⟩;have o0:=B.size;refine Ef z (AV z Mz) ?_;rintro _ p0 ⟨q0,rfl,r0,s0,C,a⟩;have⟨X,t0⟩:=Et B C;have c:=c.ext C;refine Ro 4 (Ef z (AV z Mz) ?_);rintro _ u0 ⟨v0,rfl,w0,x0,D,d⟩;have⟨E,y0⟩:=Et X D;have⟨c,a⟩:=Bs c a D;refine Ro 4 (Fl TC Ah c ?_);refine Cg g IY (fun _ j=>(Xu j (by omega) (S.oj E):)) ?_;rintro z0 g A0 B0 ⟨_,rfl,b,F⟩;have⟨Y,C0⟩:=Et E F;have⟨c,a,d⟩:=DR c a d F;have i:=AB.blk b;refine Yl z (BI z EG) (Ef z (BV z z z d HA b.cells b.one z) ?_);rintro _ D0 ⟨G,Z⟩;have⟨I,E0⟩:=Eu Y G;have⟨c,a,b⟩:=JT c a (BT b i) G;have d:=Z;refine Ro 4 (Fl Sh Ah c ?_);refine Cg g IY (fun _ j=>(Xu j (by omega) (T.oj I):)) ?_;rintro F0 g G0 H0 ⟨_,rfl,e,J⟩;have⟨a0,I0⟩:=Et I J;have⟨c,a,d,b⟩:=EU c a d b J;have k:=AB.blk e;refine Yl z (BI z EV) (Ef z (BV z z z d HA e.cells e.one z) ?_);rintro _ J0 ⟨K,b0⟩;have⟨L,K0⟩:=Eu a0 K;have⟨c,a,b,e⟩:=Od c a (BT b i) (BT e k) K;have d:=b0;refine Ro 4 (Fl UC Ah c ?_);refine Cg g IY (fun _ j=>(Xu j (by omega) (U.oj L):)) ?_;rintro L0 g M0 N0 ⟨_,rfl,f,M⟩;have⟨c0,O0⟩:=Et L M;have⟨c,a,d,b,e⟩:=GF c a d b e M;have l:=AB.blk f;refine Yl z (BI z FH) (Ef z (BV z z z d HA f.cells f.one z) ?_);rintro _ P0 ⟨N,d0⟩;have⟨O,Q0⟩:=Eu c0 N;have⟨c,a,b,e,f⟩:=Qg c a (BT b i) (BT e k) (BT f l) N;have d:=d0;refine Ro 4 (Fl Ti Ah c ?_);refine Cg g IY (fun _ j=>(Xu j (by omega) (V.oj O):)) ?_;rintro R0 g S0 T0 ⟨_,rfl,h,P⟩;have⟨e0,U0⟩:=Et O P;have⟨a,d,b,e,f⟩:=GF a d b e f P;have u:=AB.blk h;refine Yl z (BI z Dd) (Ef z (BV z z z d HA h.cells h.one z) ?_);rintro _ V0 ⟨Q,f0⟩;have⟨g0,W0⟩:=Eu e0 Q;have⟨a,b,e,f,h⟩:=Qg a (BT b i) (BT e k) (BT f l) (BT h u) Q;have d:=f0;refine Ro 4 (Yl z (BY z Gu d CF) (Ef z (CD z a CF (AC b.one (AC e.one (AC f.one (AC h.one Az)))) z) ?_));rintro _ X0 ⟨R,h0⟩;have⟨i0,Y0⟩:=Eu g0 R;have⟨b,e,f,h⟩:=Od (BT b i) (BT e k) (BT f l) (BT h u) R;have a:=h0;cases BM g;exact Ro 3 (UW a Gu CF ⟨_,z,_,_,_,_,z,AB.base b,AB.base e,AB.base f,AB.base h,(No.of k i),(No.of l i),(No.of l k),(No.of u i),(No.of u k),(No.of u l),i0⟩)
def Ly(n:Nat)(a0:List Aw)(k0:Int->(List Aw)->Option (List Aw)):Nat->Int->(List Aw)->Option (List Aw)
 |0,_,_=>none
 |m+1,a,b=>cond (decide (a<(a0.length:Int))) ((AE a0 a).bind fun d=>(Xl n d).bind fun c=>(AE b a).bind fun e=>Ly n a0 k0 m (wrap .i64 (a+1)) ((b.set (a).toNat c))) (k0 a b)
def Yd(n:Nat)(a0:List Aw):Option (List Aw):=(KG ((a0.length:Int)) 96).bind fun b=>Ly n a0 (fun c a=>some a) n 0 (List.replicate b ((Aw.mk (([]:List Int)) (([]:List Int)) (([]:List Int)) (([]:List Int)))))
theorem AeJ{k l:List Aw}{m:Value}(hF:Yd n k=some l)(hH:H<=w.heap.size)(o:AS C_Wire w H k m):
 Calls prog 39 [m].toArray w (DM fun I p=>∃q,I=q∧AB C_Wire p w.heap.size (SX w.heap.size p.heap.size q) 161 l q∧AH w p):=by
 have J:=AH.refl w;unfold Yd at hF;refine AA func39 z ntmps39 (Rc 8 (Yl z (CB z Uc (o.oj J)) ?_));have⟨K,L,hF⟩:=AG hF;refine Ef z (Bt (c:=C_Wire) (z:=(Aw.mk (([]:List Int)) (([]:List Int)) (([]:List Int)) (([]:List Int)))) z FU vZ z z z L z z (fun _=>QK (AD.nil _ _ _) (AD.nil _ _ _) (AD.nil _ _ _) (AD.nil _ _ _))) ?_;rintro r M ⟨B,s,j0,k0,C,t⟩;have l0:=C.size;have t:=AB.toN t s;have f:=BP s;clear s;refine Ro 10 (WC.loopD (fun g h wl=>∃(d:Int) (e:List Aw),Kn 23 [(0,m),(3,r),(4,.i d)] h∧AH w wl∧M.heap.size<=wl.heap.size∧AB C_Wire wl (B) (SX (B) wl.heap.size r) 161 e r∧Ly n k (fun d e=>(some e)) g d e=some l) n ?_ ?_)
 ·intro h hK;exact⟨0,(List.replicate K ((Aw.mk (([]:List Int)) (([]:List Int)) (([]:List Int)) (([]:List Int))))),hK.sub z,C,nr,(AB.wideN t),hF⟩
 ·rintro g h m0 ⟨d,e,hK,i,n0,j,hF⟩;refine Bp hK ?_;rcases g with _|g;exact Bm hF;rw [Ly.eq_2]at hF;refine Rc 5 (Yl z (CB z Uc (o.oj i)) (Ro 3 (Wc z hF ?_ ?_)))
  ·intro hF;refine Rc 9 (Ix hF (o.oj i) Uc Qt ?_);rintro o0 p0 hF _ ⟨q0,r0,s0,rfl,t0,N,O⟩;obtain⟨P,Q,R,S,rfl,T,U,V,W⟩:=CL N;refine Yl z (CQ (us:=[P,Q,R,S]) z cH O Qt) ?_;refine Cg hF yZ (fun _ a=>(AkT a (by omega) T U V W:)) ?_;rintro D hF _ X ⟨Y,Z,a0,b0,rfl,u,v,x,y,u0,v0,w0,x0,y0,z0,E⟩;have⟨c0,A0⟩:=Et i E;have j:=j.extN E (by omega);have B0:=AB.blk u;have C0:=AB.blk v;have D0:=AB.blk x;have E0:=AB.blk y;have F:=AB.wideN (hi':=X.heap.size) j;refine Io hF F FU CF ?_;rintro F0 d0 hF _ ⟨G0,H0,rfl,A,G,e0⟩;have f0:=G;obtain⟨I0,J0,K0,L0,rfl,M0,N0,O0,P0⟩:=CL G;refine Ef z (Ae (c:=C_Wire) (us':=[Y,Z,a0,b0]) (y':=D) 0 _ z z z F A d0 z CF (AC u.one (AC v.one (AC x.one (AC y.one Az)))) f0 e0 z z (QK ((AB.slf u nr nr).mono (fun c a=>⟨by have:=a.1;omega,by have:=a.2;omega,fun b=>by have:=f c b;have:=a.1;have:=a.2;omega⟩) (fun _ _=>z)) ((AB.slf v nr nr).mono (fun c a=>⟨by have:=a.1;omega,by have:=a.2;omega,fun b=>by have:=f c b;have:=a.1;have:=a.2;omega⟩) (fun _ _=>z)) ((AB.slf x nr nr).mono (fun c a=>⟨by have:=a.1;omega,by have:=a.2;omega,fun b=>by have:=f c b;have:=a.1;have:=a.2;omega⟩) (fun _ _=>z)) ((AB.slf y nr nr).mono (fun c a=>⟨by have:=a.1;omega,by have:=a.2;omega,fun b=>by have:=f c b;have:=a.1;have:=a.2;omega⟩) (fun _ _=>z))) (fun c a b=>a.2.2 (b▸A))) ?_;rintro _ Q0 ⟨g0,h0⟩;have⟨i0,R0⟩:=Eu c0 g0 (by have:=f _ A;omega);refine Ro 9 ?_;intro h hK;exact⟨g,nr,(wrap .i64 (d+1)),((e.set (d).toNat D)),hK.sub z,i0,(by omega),(AB.wideN h0),hF⟩
  ·intro hF;cases BM hF;exact Rc 12 (Ne z z ⟨_,z,_,z,AB.baseN (AB.wideN j),i⟩)
def SS(n:Nat)(a0:AM):Option AM:=(eO n a0.Library).bind fun b=>(aP n a0.Design).bind fun a=>(Yd n a0.Wires).bind fun c=>some ((AM.mk b a c))
theorem mB{p q:AM}{A B C D F:Value}(j:SS n p=some q)(m0:H<=w.heap.size)(T:AS C_Cell w H p.Library.Cells A)(U:AS C_Instance w H p.Design.Instances B)(V:AS Au w H p.Design.Nets C)(W:AS C_Port w H p.Design.Ports D)(X:AS C_Wire w H p.Wires F):
 Calls prog 9 [.agg #[A,B,C,D,F]].toArray w (DM fun Y h=>∃l m r s o,Y= .agg #[l,m,r,s,o]∧AB C_Cell h w.heap.size (SX w.heap.size h.heap.size l) 138 q.Library.Cells l∧AB C_Instance h w.heap.size (SX w.heap.size h.heap.size m) 140 q.Design.Instances m∧AB Au h w.heap.size (Iv 0 0) 9 q.Design.Nets r∧AB C_Port h w.heap.size (Iv 0 0) 206 q.Design.Ports s∧AB C_Wire h w.heap.size (SX w.heap.size h.heap.size o) 161 q.Wires o∧No m l∧No r l∧No r m∧No s l∧No s m∧No s r∧No o l∧No o m∧No o r∧No o s∧AH w h):=by
 unfold SS at j;refine AA func9 z ntmps9 (Rc 2 (Ef z (AF z z) ?_));rintro _ n0 ⟨o0,rfl,p0,q0,G,c⟩;have r0:=G.size;refine Ef z (AV z gB) ?_;rintro _ s0 ⟨t0,rfl,u0,v0,I,a⟩;have⟨Z,w0⟩:=Et G I;have c:=c.ext I;refine Ro 4 (Ef z (AV z gB) ?_);rintro _ x0 ⟨y0,rfl,z0,A0,J,d⟩;have⟨K,B0⟩:=Et Z J;have⟨c,a⟩:=Bs c a J;refine Ro 4 (Yl z (BI z Wj) (Yl z (CQ (us:=[A]) z nW (AP.sub (Aj.cells c) 0 1:AP _ _ _ [A]) oO) ?_));refine Cg j AdF (fun _ u=>(AjI u (by omega) (T.oj K):)) ?_;rintro C0 j _ D0 ⟨E0,rfl,b,L⟩;have⟨a0,F0⟩:=Et K L;have⟨c,a,d⟩:=DR c a d L;have k:=AB.blk b;refine Yl z (BI z FL) (Ef z (CD z d Hb (AC (AD.one (AB.slN b nr nr)) Az) z) ?_);rintro _ G0 ⟨M,b0⟩;have⟨E,H0⟩:=Eu a0 M;have⟨c,a,b⟩:=JT c a (BT b k) M;have d:=b0;refine Ro 4 (Yl z (BI z WR) (Yl z (CQ (us:=[B,C,D]) z nV (AP.sub (Aj.cells c) 1 3:AP _ _ _ [B,C,D]) oD) ?_));refine Cg j AbG (fun _ u=>(AjJ u (by omega) (U.oj E) (V.oj E) (W.oj E):)) ?_;rintro I0 j _ J0 ⟨K0,L0,M0,rfl,e,f,g,c0,d0,e0,N⟩;have⟨f0,N0⟩:=Et E N;have⟨c,a,d,b⟩:=EU c a d b N;have v:=AB.blk e;have x:=AB.blk f;have y:=AB.blk g;refine Yl z (BI z CZ) (Ef z (CD z d DC (AC (AD.one (AB.slN e nr nr)) (AC f.one (AC g.one Az))) z) ?_);rintro _ O0 ⟨O,g0⟩;have⟨P,P0⟩:=Eu f0 O;have⟨c,a,b,e,f,g⟩:=Vf c a (BT b k) (BT e v) (BT f x) (BT g y) O;have d:=g0;refine Ro 4 (Fl Wb pH c ?_);refine Cg j AcW (fun _ u=>(AeJ u (by omega) (X.oj P):)) ?_;rintro Q0 j R0 S0 ⟨_,rfl,i,Q⟩;have⟨h0,T0⟩:=Et P Q;have⟨a,d,b,e,f,g⟩:=KD a d b e f g Q;have t:=AB.blk i;refine Yl z (BI z DE) (Ef z (BV z z z d AaA (AD.cells (AB.slN i nr nr)) (AD.one (AB.slN i nr nr)) z) ?_);rintro _ U0 ⟨R,i0⟩;have⟨j0,V0⟩:=Eu h0 R;have⟨a,b,e,f,g,i⟩:=Vf a (BT b k) (BT e v) (BT f x) (BT g y) (BT i t) R;have d:=i0;refine Ro 4 (Yl z (BY z CC d Bx) (Ef z (CD z a Bx (AC (AD.one (AB.slN b nr nr)) (AC (AD.one (AB.slN e nr nr)) (AC f.one (AC g.one (AC (AD.one (AB.slN i nr nr)) Az))))) z) ?_));rintro _ W0 ⟨S,k0⟩;have⟨l0,X0⟩:=Eu j0 S;have⟨b,e,f,g,i⟩:=Qg (BT b k) (BT e v) (BT f x) (BT g y) (BT i t) S;have a:=k0;cases BM j;exact Ro 3 (UW a CC Bx ⟨_,z,_,_,_,_,_,z,AB.baseN (AB.wideN b),AB.baseN (AB.wideN e),AB.base f,AB.base g,AB.baseN (AB.wideN i),(No.of v k),(No.of x k),c0,(No.of y k),d0,e0,(No.of t k),(No.of t v),(No.of t x),(No.of t y),l0⟩)
def YF(n:Nat)(a0:Ak):Option Ak:=some a0
theorem uZ{d e:Ak}(hF:YF n d=some e):
 Calls prog 10 [.agg #[.string d.Name,.i d.CellEarly,.i d.CellLate,.i d.WireEarly,.i d.WireLate]].toArray w (DM fun o f=>o= .agg #[.string e.Name,.i e.CellEarly,.i e.CellLate,.i e.WireEarly,.i e.WireLate]∧AH w f):=by
 unfold YF at hF;refine AA func10 z ntmps10 (Rc 2 (Ef z (AF z z) ?_));rintro _ f ⟨G,rfl,I,J,g,a⟩;have K:=g.size;refine Ef z (AV z oS) ?_;rintro _ L ⟨M,rfl,N,O,h,b⟩;have⟨p,P⟩:=Et g h;have a:=a.ext h;refine Ro 4 (Ef z (AV z oS) ?_);rintro _ Q ⟨R,rfl,S,T,i,c⟩;have⟨q,U⟩:=Et p i;have⟨a,b⟩:=Bs a b i;refine Ro 4 (Fl WB Dy a (Yl z (BI z SF) (Ef z (CD z c HV z z) ?_)));rintro _ V ⟨j,r⟩;have⟨s,W⟩:=Eu q j;have⟨a,b⟩:=IQ a b j;have c:=r;refine Ro 4 (Fl kQ AK a (Yl z (BI z Lv) (Ef z (CD z c Al z z) ?_)));rintro _ X ⟨H,t⟩;have⟨u,Y⟩:=Eu s H;have⟨a,b⟩:=IQ a b H;have c:=t;refine Ro 4 (Fl mT AK a (Yl z (BI z Ln) (Ef z (CD z c Al z z) ?_)));rintro _ Z ⟨k,v⟩;have⟨x,a0⟩:=Eu u k;have⟨a,b⟩:=IQ a b k;have c:=v;refine Ro 4 (Fl lI AK a (Yl z (BI z LR) (Ef z (CD z c Al z z) ?_)));rintro _ b0 ⟨l,y⟩;have⟨A,c0⟩:=Eu x l;have⟨a,b⟩:=IQ a b l;have c:=y;refine Ro 4 (Fl kG AK a (Yl z (BI z Lq) (Ef z (CD z c Al z z) ?_)));rintro _ d0 ⟨m,B⟩;have⟨C,e0⟩:=Eu A m;have b:=b.upd m (by omega);have c:=B;refine Ro 4 (Yl z (BY z EX c EL) (Ef z (CD z b EL z z) ?_));rintro _ f0 ⟨D,E⟩;have⟨F,g0⟩:=Eu C D;have b:=E;obtain rfl:=(UO hF);exact Ro 3 (UW b EX EL ⟨_,z,z,F⟩)
def Lt(a0:List Bool)(k0:Int->(List Bool)->Option (List Bool)):Nat->Int->(List Bool)->Option (List Bool)
 |0,_,_=>none
 |m+1,a,b=>cond (decide (a<(a0.length:Int))) ((AE a0 a).bind fun c=>(AE b a).bind fun d=>Lt a0 k0 m (wrap .i64 (a+1)) ((b.set (a).toNat c))) (k0 a b)
def Zs(n:Nat)(a0:List Bool):Option (List Bool):=(KG ((a0.length:Int)) 1).bind fun b=>Lt a0 (fun c a=>some a) n 0 (List.replicate b false)
theorem AjM{h i:List Bool}{j:Value}(a:Zs n h=some i)(O:H<=w.heap.size)(k:AS Am w H h j):
 Calls prog 40 [j].toArray w (DM fun v o=>∃p,v=p∧AB Am o w.heap.size (Iv 0 0) 4 i p∧AH w o):=by
 have x:=AH.refl w;unfold Zs at a;refine AA func40 z ntmps40 (Rc 8 (Yl z (CB z Da (k.oj x)) ?_));have⟨y,A,a⟩:=AG a;refine Ef z (Bt (c:=Am) (z:=false) z Da SC z z z A z z (fun _=>z)) ?_;rintro q B ⟨C,r,P,Q,s,D⟩;have R:=s.size;have E:=BP r;clear r;refine Ro 10 (WC.loopD (fun d f wl=>∃(b:Int) (c:List Bool),Kn 22 [(0,j),(3,q),(4,.i b)] f∧AH w wl∧B.heap.size<=wl.heap.size∧AB Am wl (C) (Iv 0 0) 4 c q∧Lt h (fun b c=>(some c)) d b c=some i) n ?_ ?_)
 ·intro f e;exact⟨0,(List.replicate y false),e.sub z,s,nr,D,a⟩
 ·rintro d f S ⟨b,c,e,g,T,l,a⟩;refine Bp e ?_;rcases d with _|d;exact Bm a;rw [Lt.eq_2]at a;refine Rc 5 (Yl z (CB z Da (k.oj g)) (Ro 3 (Wc z a ?_ ?_)))
  ·intro a;refine Rc 9 (Il a (k.oj g) Da EH Dl ?_);rintro m a _;refine Io a l Da EH ?_;rintro U F a _ ⟨V,W,rfl,t,u,G⟩;have I:=u;obtain rfl:=u;refine Ef z (Ae (c:=Am) (us':=[.bool m]) (y':=m) 0 _ z z z l t F z EH z I G z z z (fun J K=>absurd K.2 (Nat.not_lt_zero J))) ?_;rintro _ X ⟨L,M⟩;have⟨N,Y⟩:=Eu g L (by have:=E _ t;omega);refine Ro 9 ?_;intro f e;exact⟨d,nr,(wrap .i64 (b+1)),((c.set (b).toNat m)),e.sub z,N,(by omega),M,a⟩
  ·intro a;cases BM a;exact Rc 12 (Ne z z ⟨_,z,_,z,AB.base l,g⟩)
def Xt(n:Nat)(a0:AO):Option AO:=some a0
theorem AaO{d e:AO}(f:Xt n d=some e):
 Calls prog 83 [.agg #[.i d.Early,.i d.Late]].toArray w (DM fun m g=>m= .agg #[.i e.Early,.i e.Late]∧AH w g):=by
 unfold Xt at f;refine AA func83 z ntmps83 (Rc 2 (Ef z (AF z z) ?_));rintro _ g ⟨y,rfl,A,B,h,b⟩;have C:=h.size;refine Ef z (AV z Cu) ?_;rintro _ D ⟨E,rfl,F,G,i,a⟩;have⟨o,I⟩:=Et h i;have b:=b.ext i;refine Ro 4 (Ef z (AV z Cu) ?_);rintro _ J ⟨H,rfl,K,L,j,c⟩;have⟨p,M⟩:=Et o j;have⟨b,a⟩:=Bs b a j;refine Ro 4 (Fl dI AK b (Yl z (BI z Bb) (Ef z (CD z c Al z z) ?_)));rintro _ N ⟨k,q⟩;have⟨r,O⟩:=Eu p k;have⟨b,a⟩:=IQ b a k;have c:=q;refine Ro 4 (Fl Zo AK b (Yl z (BI z Be) (Ef z (CD z c Al z z) ?_)));rintro _ P ⟨l,s⟩;have⟨t,Q⟩:=Eu r l;have a:=a.upd l (by omega);have c:=s;refine Ro 4 (Yl z (BY z CR c Ax) (Ef z (CD z a Ax z z) ?_));rintro _ R ⟨u,v⟩;have⟨x,S⟩:=Eu t u;have a:=v;obtain rfl:=(UO f);exact Ro 3 (UW a CR Ax ⟨_,z,z,x⟩)
def Lr(n:Nat)(a0:List AO)(k0:Int->(List AO)->Option (List AO)):Nat->Int->(List AO)->Option (List AO)
 |0,_,_=>none
 |m+1,a,b=>cond (decide (a<(a0.length:Int))) ((AE a0 a).bind fun d=>(Xt n d).bind fun c=>(AE b a).bind fun e=>Lr n a0 k0 m (wrap .i64 (a+1)) ((b.set (a).toNat c))) (k0 a b)
def XH(n:Nat)(a0:List AO):Option (List AO):=(KG ((a0.length:Int)) 16).bind fun b=>Lr n a0 (fun c a=>some a) n 0 (List.replicate b ((AO.mk 0 0)))
theorem AbV{h i:List AO}{j:Value}(hF:XH n h=some i)(hH:H<=w.heap.size)(k:AS C_Span w H h j):
 Calls prog 41 [j].toArray w (DM fun x m=>∃o,x=o∧AB C_Span m w.heap.size (Iv 0 0) 92 i o∧AH w m):=by
 have y:=AH.refl w;unfold XH at hF;refine AA func41 z ntmps41 (Rc 8 (Yl z (CB z aJ (k.oj y)) ?_));have⟨A,B,hF⟩:=AG hF;refine Ef z (Bt (c:=C_Span) (z:=(AO.mk 0 0)) z Ec fL z z z B z z (fun _=>FR)) ?_;rintro p C ⟨D,q,R,S,r,E⟩;have T:=r.size;have F:=BP q;clear q;refine Ro 10 (WC.loopD (fun c e wl=>∃(a:Int) (b:List AO),Kn 23 [(0,j),(3,p),(4,.i a)] e∧AH w wl∧C.heap.size<=wl.heap.size∧AB C_Span wl (D) (Iv 0 0) 92 b p∧Lr n h (fun a b=>(some b)) c a b=some i) n ?_ ?_)
 ·intro e hK;exact⟨0,(List.replicate A ((AO.mk 0 0))),hK.sub z,r,nr,E,hF⟩
 ·rintro c e U ⟨a,b,hK,f,V,d,hF⟩;refine Bp hK ?_;rcases c with _|c;exact Bm hF;rw [Lr.eq_2]at hF;refine Rc 5 (Yl z (CB z aJ (k.oj f)) (Ro 3 (Wc z hF ?_ ?_)))
  ·intro hF;refine Rc 9 (Ix hF (k.oj f) aJ Ul ?_);rintro s W hF _ ⟨X,Y,Z,rfl,a0,G,I⟩;obtain rfl:=BH G;refine Yl z (CQ (us:=[.i s.Early,.i s.Late]) z Yr I Ul) ?_;refine Cg hF oY (fun _ l=>(AaO l:)) ?_;rintro g hF _ b0 ⟨rfl,t⟩;have⟨J,c0⟩:=Et f t;have d:=d.ext t;refine Io hF d Ec Ax ?_;rintro d0 K hF _ ⟨e0,f0,rfl,u,v,L⟩;have M:=v;obtain rfl:=BH v;refine Ef z (Ae (c:=C_Span) (us':=[.i g.Early,.i g.Late]) (y':=g) 0 _ z z z d u K z Ax z M L z z FR (fun N l=>absurd l.2 (Nat.not_lt_zero N))) ?_;rintro _ g0 ⟨O,P⟩;have⟨Q,h0⟩:=Eu J O (by have:=F _ u;omega);refine Ro 9 ?_;intro e hK;exact⟨c,nr,(wrap .i64 (a+1)),((b.set (a).toNat g)),hK.sub z,Q,(by omega),P,hF⟩
  ·intro hF;cases BM hF;exact Rc 12 (Ne z z ⟨_,z,_,z,AB.base d,f⟩)
def Tp(n:Nat)(a0:Ap):Option Ap:=(Zs n a0.Reached).bind fun b=>(XH n a0.Arrival).bind fun a=>(XH n a0.Slew).bind fun c=>some ((Ap.mk b a c))
theorem kV{k l:Ap}{s t u:Value}(g:Tp n k=some l)(Z:H<=w.heap.size)(L:AS Am w H k.Reached s)(M:AS C_Span w H k.Arrival t)(N:AS C_Span w H k.Slew u):
 Calls prog 12 [.agg #[s,t,u]].toArray w (DM fun O m=>∃o p q,O= .agg #[o,p,q]∧AB Am m w.heap.size (Iv 0 0) 4 l.Reached o∧AB C_Span m w.heap.size (Iv 0 0) 92 l.Arrival p∧AB C_Span m w.heap.size (Iv 0 0) 92 l.Slew q∧No p o∧No q o∧No q p∧AH w m):=by
 unfold Tp at g;refine AA func12 z ntmps12 (Rc 2 (Ef z (AF z z) ?_));rintro _ a0 ⟨b0,rfl,c0,d0,v,c⟩;have e0:=v.size;refine Ef z (AV z aB) ?_;rintro _ f0 ⟨g0,rfl,h0,i0,x,a⟩;have⟨P,j0⟩:=Et v x;have c:=c.ext x;refine Ro 4 (Ef z (AV z aB) ?_);rintro _ k0 ⟨l0,rfl,m0,n0,y,d⟩;have⟨A,o0⟩:=Et P y;have⟨c,a⟩:=Bs c a y;refine Ro 4 (Fl WJ EI c ?_);refine Cg g AcC (fun _ i=>(AjM i (by omega) (L.oj A):)) ?_;rintro p0 g q0 r0 ⟨_,rfl,b,B⟩;have⟨Q,s0⟩:=Et A B;have⟨c,a,d⟩:=DR c a d B;have h:=AB.blk b;refine Yl z (BI z Fh) (Ef z (BV z z z d AbS b.cells b.one z) ?_);rintro _ t0 ⟨C,R⟩;have⟨D,u0⟩:=Eu Q C;have⟨c,a,b⟩:=JT c a (BT b h) C;have d:=R;refine Ro 4 (Fl WD Wd c ?_);refine Cg g pK (fun _ i=>(AbV i (by omega) (M.oj D):)) ?_;rintro v0 g w0 x0 ⟨_,rfl,e,E⟩;have⟨S,y0⟩:=Et D E;have⟨c,a,d,b⟩:=EU c a d b E;have j:=AB.blk e;refine Yl z (BI z GS) (Ef z (BV z z z d nR e.cells e.one z) ?_);rintro _ z0 ⟨F,T⟩;have⟨G,A0⟩:=Eu S F;have⟨c,a,b,e⟩:=Od c a (BT b h) (BT e j) F;have d:=T;refine Ro 4 (Fl WP Wd c ?_);refine Cg g pK (fun _ i=>(AbV i (by omega) (N.oj G):)) ?_;rintro B0 g C0 D0 ⟨_,rfl,f,I⟩;have⟨U,E0⟩:=Et G I;have⟨a,d,b,e⟩:=EU a d b e I;have r:=AB.blk f;refine Yl z (BI z Er) (Ef z (BV z z z d nR f.cells f.one z) ?_);rintro _ F0 ⟨J,V⟩;have⟨W,G0⟩:=Eu U J;have⟨a,b,e,f⟩:=Od a (BT b h) (BT e j) (BT f r) J;have d:=V;refine Ro 4 (Yl z (BY z IX d HX) (Ef z (CD z a HX (AC b.one (AC e.one (AC f.one Az))) z) ?_));rintro _ H0 ⟨K,X⟩;have⟨Y,I0⟩:=Eu W K;have⟨b,e,f⟩:=JT (BT b h) (BT e j) (BT f r) K;have a:=X;cases BM g;exact Ro 3 (UW a IX HX ⟨_,z,_,_,_,z,AB.base b,AB.base e,AB.base f,(No.of j h),(No.of r h),(No.of r j),Y⟩)
def XZ(n:Nat)(a0:AJ):Option AJ:=(Xt n a0.Required).bind fun a=>some ((AJ.mk a0.Node a))
theorem AkX{b e:AJ}(f:XZ n b=some e):
 Calls prog 42 [.agg #[.i b.Node,.i b.Required.Early,.i b.Required.Late]].toArray w (DM fun m g=>m= .agg #[.i e.Node,.i e.Required.Early,.i e.Required.Late]∧AH w g):=by
 unfold XZ at f;refine AA func42 z ntmps42 (Rc 2 (Ef z (AF z z) ?_));rintro _ g ⟨B,rfl,C,D,h,c⟩;have E:=h.size;refine Ef z (AV z Gg) ?_;rintro _ F ⟨G,rfl,I,J,i,a⟩;have⟨o,K⟩:=Et h i;have c:=c.ext i;refine Ro 4 (Ef z (AV z Gg) ?_);rintro _ L ⟨M,rfl,N,O,j,d⟩;have⟨p,P⟩:=Et o j;have⟨c,a⟩:=Bs c a j;refine Ro 4 (Fl dH AK c (Yl z (BI z FK) (Ef z (CD z d Al z z) ?_)));rintro _ Q ⟨k,q⟩;have⟨r,R⟩:=Eu p k;have⟨c,a⟩:=IQ c a k;have d:=q;refine Ro 4 (Yl z (BI z Yv) (Yl z (CQ (us:=[.i b.Required.Early,.i b.Required.Late]) z Yr (AP.sub (Aj.cells c) 1 2:AP _ _ _ [.i b.Required.Early,.i b.Required.Late]) Ul) ?_));refine Cg f oY (fun _ s=>(AaO s:)) ?_;rintro S f _ T ⟨rfl,H⟩;have⟨t,U⟩:=Et r H;have⟨a,d⟩:=Bs a d H;refine Yl z (BI z Dh) (Ef z (CD z d Ax z z) ?_);rintro _ V ⟨l,u⟩;have⟨v,W⟩:=Eu t l;have a:=a.upd l (by omega);have d:=u;refine Ro 4 (Yl z (BY z Gc d Bz) (Ef z (CD z a Bz z z) ?_));rintro _ X ⟨x,y⟩;have⟨A,Y⟩:=Eu v x;have a:=y;cases BM f;exact Ro 3 (UW a Gc Bz ⟨_,z,z,A⟩)
def Lw(n:Nat)(a0:List AJ)(k0:Int->(List AJ)->Option (List AJ)):Nat->Int->(List AJ)->Option (List AJ)
 |0,_,_=>none
 |m+1,a,b=>cond (decide (a<(a0.length:Int))) ((AE a0 a).bind fun d=>(XZ n d).bind fun c=>(AE b a).bind fun e=>Lw n a0 k0 m (wrap .i64 (a+1)) ((b.set (a).toNat c))) (k0 a b)
def TS(n:Nat)(a0:List AJ):Option (List AJ):=(KG ((a0.length:Int)) 24).bind fun b=>Lw n a0 (fun c a=>some a) n 0 (List.replicate b ((AJ.mk 0 ((AO.mk 0 0)))))
theorem lD{h i:List AJ}{j:Value}(hF:TS n h=some i)(hH:H<=w.heap.size)(k:AS C_Target w H h j):
 Calls prog 13 [j].toArray w (DM fun x o=>∃p,x=p∧AB C_Target o w.heap.size (Iv 0 0) 94 i p∧AH w o):=by
 have y:=AH.refl w;unfold TS at hF;refine AA func13 z ntmps13 (Rc 8 (Yl z (CB z gX (k.oj y)) ?_));have⟨A,B,hF⟩:=AG hF;refine Ef z (Bt (c:=C_Target) (z:=(AJ.mk 0 ((AO.mk 0 0)))) z Gq AcX z z z B z z (fun _=>Gj)) ?_;rintro q C ⟨D,r,R,S,s,E⟩;have T:=s.size;have F:=BP r;clear r;refine Ro 10 (WC.loopD (fun c f wl=>∃(a:Int) (b:List AJ),Kn 23 [(0,j),(3,q),(4,.i a)] f∧AH w wl∧C.heap.size<=wl.heap.size∧AB C_Target wl (D) (Iv 0 0) 94 b q∧Lw n h (fun a b=>(some b)) c a b=some i) n ?_ ?_)
 ·intro f hK;exact⟨0,(List.replicate A ((AJ.mk 0 ((AO.mk 0 0))))),hK.sub z,s,nr,E,hF⟩
 ·rintro c f U ⟨a,b,hK,g,V,d,hF⟩;refine Bp hK ?_;rcases c with _|c;exact Bm hF;rw [Lw.eq_2]at hF;refine Rc 5 (Yl z (CB z gX (k.oj g)) (Ro 3 (Wc z hF ?_ ?_)))
  ·intro hF;refine Rc 9 (Ix hF (k.oj g) gX cZ ?_);rintro l W hF _ ⟨X,Y,Z,rfl,a0,G,I⟩;obtain rfl:=Ba G;refine Yl z (CQ (us:=[.i l.Node,.i l.Required.Early,.i l.Required.Late]) z tE I cZ) ?_;refine Cg hF zC (fun _ m=>(AkX m:)) ?_;rintro e hF _ b0 ⟨rfl,t⟩;have⟨J,c0⟩:=Et g t;have d:=d.ext t;refine Io hF d Gq Bz ?_;rintro d0 K hF _ ⟨e0,f0,rfl,u,v,L⟩;have M:=v;obtain rfl:=Ba v;refine Ef z (Ae (c:=C_Target) (us':=[.i e.Node,.i e.Required.Early,.i e.Required.Late]) (y':=e) 0 _ z z z d u K z Bz z M L z z Gj (fun N m=>absurd m.2 (Nat.not_lt_zero N))) ?_;rintro _ g0 ⟨O,P⟩;have⟨Q,h0⟩:=Eu J O (by have:=F _ u;omega);refine Ro 9 ?_;intro f hK;exact⟨c,nr,(wrap .i64 (a+1)),((b.set (a).toNat e)),hK.sub z,Q,(by omega),P,hF⟩
  ·intro hF;cases BM hF;exact Rc 12 (Ne z z ⟨_,z,_,z,AB.base d,g⟩)
def Lo(a0:List Bool)(a1:List Bool)(k0:Int->Option Bool):Nat->Int->Option Bool
 |0,_=>none
 |m+1,a=>cond (decide (a<(a0.length:Int))) ((AE a0 a).bind fun c=>(AE a1 a).bind fun b=>cond (c !=b) (some false) (Lo a0 a1 k0 m (wrap .i64 (a+1)))) (k0 a)
def YD(n:Nat)(a0:List Bool)(a1:List Bool):Option Bool:=cond (((a0.length:Int)) !=((a1.length:Int))) (some false) (Lo a0 a1 (fun a=>some true) n 0)
theorem AbR{g h:List Bool}{i:Bool}{j k:Value}(a:YD n g h=some i)(r:H<=w.heap.size)(l:AS Am w H g j)(o:AS Am w H h k):
 Calls prog 45 [j,k].toArray w (An (.bool i) w):=by
 have m:=AH.refl w;unfold YD at a;refine AA func45 z ntmps45 (Rc 9 (Yl z (CB z Da (l.oj m)) (Ro 1 (Yl z (CB z Da (o.oj m)) (Ro 3 (Wt a m ?_))))));intro a;refine Rc 9 (WC.loopD (fun c f wl=>∃d:Int,Kn 26 [(0,j),(1,k),(5,.i d)] f∧AH w wl∧Lo g h (fun d=>(some true)) c d=some i) n ?_ ?_)
 ·intro f e;exact⟨0,e.sub z,AH.refl _,a⟩
 ·rintro c f s ⟨d,e,b,a⟩;refine Bp e ?_;rcases c with _|c;exact Bm a;rw [Lo.eq_2]at a;have t:=b.size;refine Rc 5 (Yl z (CB z Da (l.oj b)) (Ro 3 (Wf a b ?_)));intro a;refine Rc 5 (Bh Tryz.hm (Qr 2 (Og a (l.oj b) Da EH Dl ?_)));rintro u a _;refine Qr 2 (Og a (o.oj b) Da EH Dl ?_);rintro v a _;refine Qy z (NM z sI z z) ?_;refine QL.done fun x p=>?_;have⟨q,y⟩:=Et b p;refine Re 1 (Wt a q ?_);intro a;refine Rc 9 ?_;intro f e;exact⟨c,nr,(wrap .i64 (d+1)),e.sub z,(AH.trans b p),a⟩
def SP(n:Nat)(a0:AO)(a1:AO):Option Bool:=cond (a0.Early !=a1.Early) (some false) (cond (a0.Late !=a1.Late) (some false) (some true))
theorem AaJ{c d:AO}{f:Bool}(a:SP n c d=some f):
 Calls prog 97 [.agg #[.i c.Early,.i c.Late],.agg #[.i d.Early,.i d.Late]].toArray w (An (.bool f) w):=by
 unfold SP at a;refine AA func97 z ntmps97 (Rc 2 (Ef z (AF z z) ?_));rintro _ i ⟨j,rfl,k,l,g,b⟩;have m:=g.size;refine Ef z (AF z z) ?_;rintro _ o ⟨p,rfl,q,r,H,h⟩;have⟨e,s⟩:=Et g H;have b:=b.ext H;refine Ro 6 (Fl Bb AK b (Fl Bb AK h (Ro 3 (Wt a e ?_))));intro a;refine Rc 5 (Fl Be AK b (Fl Be AK h (Ro 3 (Wt a e ?_))));intro a;exact Iw a e
def Lf(n:Nat)(a0:List AO)(a1:List AO)(k0:Int->Option Bool):Nat->Int->Option Bool
 |0,_=>none
 |m+1,a=>cond (decide (a<(a0.length:Int))) ((AE a0 a).bind fun d=>(AE a1 a).bind fun b=>(SP n d b).bind fun c=>cond (!c) (some false) (Lf n a0 a1 k0 m (wrap .i64 (a+1)))) (k0 a)
def Un(n:Nat)(a0:List AO)(a1:List AO):Option Bool:=cond (((a0.length:Int)) !=((a1.length:Int))) (some false) (Lf n a0 a1 (fun a=>some true) n 0)
theorem qP{g h:List AO}{i:Bool}{j k:Value}(a:Un n g h=some i)(A:H<=w.heap.size)(l:AS C_Span w H g j)(o:AS C_Span w H h k):
 Calls prog 46 [j,k].toArray w (An (.bool i) w):=by
 have m:=AH.refl w;unfold Un at a;refine AA func46 z ntmps46 (Rc 9 (Yl z (CB z Ec (l.oj m)) (Ro 1 (Yl z (CB z Ec (o.oj m)) (Ro 3 (Wt a m ?_))))));intro a;refine Rc 9 (WC.loopD (fun c f wl=>∃d:Int,Kn 27 [(0,j),(1,k),(5,.i d)] f∧AH w wl∧Lf n g h (fun d=>(some true)) c d=some i) n ?_ ?_)
 ·intro f e;exact⟨0,e.sub z,AH.refl _,a⟩
 ·rintro c f B ⟨d,e,b,a⟩;refine Bp e ?_;rcases c with _|c;exact Bm a;rw [Lf.eq_2]at a;have C:=b.size;refine Rc 5 (Yl z (CB z Ec (l.oj b)) (Ro 3 (Wf a b ?_)));intro a;refine Rc 5 (Bh Tryz.hm (Qr 2 (Iq a (l.oj b) Ec Ax ?_)));rintro p D a _ ⟨E,F,G,rfl,I,s,t⟩;obtain rfl:=BH s;refine Qy z (CQ (us:=[.i p.Early,.i p.Late]) z CR t Ax) (Qr 2 (Iq a (o.oj b) Ec Ax ?_));rintro q J a _ ⟨K,L,M,rfl,N,u,v⟩;obtain rfl:=BH u;refine Qy z (CQ (us:=[.i q.Early,.i q.Late]) z CR v Ax) ?_;have⟨O,x,a⟩:=AG a;refine Ql z (IV z oF fun w' hw'=>(AaJ x:)) ?_;refine Qr 1 ?_;refine QL.done fun P r=>?_;have⟨y,Q⟩:=Et b r;refine Re 1 (Wt a y ?_);intro a;refine Rc 9 ?_;intro f e;exact⟨c,nr,(wrap .i64 (d+1)),e.sub z,(AH.trans b r),a⟩
def Ve(n:Nat)(a0:BL)(a1:BL):Option Bool:=(YD n a0.Bound a1.Bound).bind fun a=>cond (!a) (some false) ((Un n a0.Required a1.Required).bind fun b=>cond (!b) (some false) (some true))
theorem qU{e f:BL}{i:Bool}{j k l m:Value}(a:Ve n e f=some i)(x:H<=w.heap.size)(r:AS Am w H e.Bound j)(s:AS C_Span w H e.Required k)(t:AS Am w H f.Bound l)(u:AS C_Span w H f.Required m):
 Calls prog 15 [.agg #[j,k],.agg #[l,m]].toArray w (An (.bool i) w):=by
 unfold Ve at a;refine AA func15 z ntmps15 (Rc 2 (Ef z (AF z z) ?_));rintro _ y ⟨A,rfl,B,C,o,b⟩;have D:=o.size;refine Ef z (AF z z) ?_;rintro _ E ⟨F,rfl,G,I,p,c⟩;have⟨g,J⟩:=Et o p;have b:=b.ext p;refine Ro 6 (Fl HE EI b (Fl HE EI c ?_));refine Cs a g pG (fun _ h=>(AbR h (by omega) (r.oj g) (t.oj g):)) ?_;rintro K a L v ⟨d,M⟩;have⟨b,c⟩:=Bs b c v;refine Ro 3 (Wt a d ?_);intro a;refine Rc 5 (Fl FI DS b (Fl FI DS c ?_));refine Cs a d ZF (fun _ h=>(qP h (by omega) (s.oj d) (u.oj d):)) ?_;rintro N a O P ⟨q,Q⟩;refine Ro 3 (Wt a q ?_);intro a;exact Iw a q
def Nl(a0:List Int)(a1:List Int)(k0:Int->Option Bool):Nat->Int->Option Bool
 |0,_=>none
 |m+1,a=>cond (decide (a<(a0.length:Int))) ((AE a0 a).bind fun c=>(AE a1 a).bind fun b=>cond (c !=b) (some false) (Nl a0 a1 k0 m (wrap .i64 (a+1)))) (k0 a)
def WK(n:Nat)(a0:List Int)(a1:List Int):Option Bool:=cond (((a0.length:Int)) !=((a1.length:Int))) (some false) (Nl a0 a1 (fun a=>some true) n 0)
theorem iM{g h:List Int}{i:Bool}{j k:Value}(a:WK n g h=some i)(r:H<=w.heap.size)(l:AS (AI .i64) w H g j)(o:AS (AI .i64) w H h k):
 Calls prog 17 [j,k].toArray w (An (.bool i) w):=by
 have m:=AH.refl w;unfold WK at a;refine AA func17 z ntmps17 (Rc 9 (Yl z (CB z Ac (l.oj m)) (Ro 1 (Yl z (CB z Ac (o.oj m)) (Ro 3 (Wt a m ?_))))));intro a;refine Rc 9 (WC.loopD (fun c f wl=>∃d:Int,Kn 26 [(0,j),(1,k),(5,.i d)] f∧AH w wl∧Nl g h (fun d=>(some true)) c d=some i) n ?_ ?_)
 ·intro f e;exact⟨0,e.sub z,AH.refl _,a⟩
 ·rintro c f s ⟨d,e,b,a⟩;refine Bp e ?_;rcases c with _|c;exact Bm a;rw [Nl.eq_2]at a;have t:=b.size;refine Rc 5 (Yl z (CB z Ac (l.oj b)) (Ro 3 (Wf a b ?_)));intro a;refine Rc 5 (Bh Tryz.hm (Qr 2 (Og a (l.oj b) Ac Al AK ?_)));rintro u a _;refine Qr 2 (Og a (o.oj b) Ac Al AK ?_);rintro v a _;refine Qr 1 ?_;refine QL.done fun x p=>?_;have⟨q,y⟩:=Et b p;refine Re 1 (Wt a q ?_);intro a;refine Rc 9 ?_;intro f e;exact⟨c,nr,(wrap .i64 (d+1)),e.sub z,(AH.trans b p),a⟩
def VR(n:Nat)(a0:BQ)(a1:BQ):Option Bool:=cond (a0.Name.toList !=a1.Name.toList) (some false) (cond (a0.Dir !=a1.Dir) (some false) (cond (a0.Cap !=a1.Cap) (some false) (cond (a0.Clock !=a1.Clock) (some false) (some true))))
theorem AgL{c d:BQ}{g:Bool}(a:VR n c d=some g):
 Calls prog 226 [.agg #[.string c.Name,.i c.Dir,.i c.Cap,.bool c.Clock],.agg #[.string d.Name,.i d.Dir,.i d.Cap,.bool d.Clock]].toArray w (An (.bool g) w):=by
 unfold VR at a;refine AA func226 z ntmps226 (Rc 2 (Ef z (AF z z) ?_));rintro _ i ⟨j,rfl,k,l,h,b⟩;have m:=h.size;refine Ef z (AF z z) ?_;rintro _ o ⟨p,rfl,q,r,H,f⟩;have⟨e,s⟩:=Et h H;have b:=b.ext H;refine Ro 6 (Fl Gk Dy b (Fl Gk Dy f (Ro 3 (Wt a e ?_))));intro a;refine Rc 5 (Fl Gh AK b (Fl Gh AK f (Ro 3 (Wt a e ?_))));intro a;refine Rc 5 (Fl FB AK b (Fl FB AK f (Ro 3 (Wt a e ?_))));intro a;refine Rc 5 (Fl DG Dl b (Fl DG Dl f (Yl z (NM z sI z z) (Ro 2 (Wt a e ?_)))));intro a;exact Iw a e
def Lp(n:Nat)(a0:List BQ)(a1:List BQ)(k0:Int->Option Bool):Nat->Int->Option Bool
 |0,_=>none
 |m+1,a=>cond (decide (a<(a0.length:Int))) ((AE a0 a).bind fun d=>(AE a1 a).bind fun b=>(VR n d b).bind fun c=>cond (!c) (some false) (Lp n a0 a1 k0 m (wrap .i64 (a+1)))) (k0 a)
def bM(n:Nat)(a0:List BQ)(a1:List BQ):Option Bool:=cond (((a0.length:Int)) !=((a1.length:Int))) (some false) (Lp n a0 a1 (fun a=>some true) n 0)
theorem AgW{i j:List BQ}{k:Bool}{l m:Value}(a:bM n i j=some k)(A:H<=w.heap.size)(o:AS C_Pin w H i l)(q:AS C_Pin w H j m):
 Calls prog 193 [l,m].toArray w (An (.bool k) w):=by
 have p:=AH.refl w;unfold bM at a;refine AA func193 z ntmps193 (Rc 9 (Yl z (CB z Cy (o.oj p)) (Ro 1 (Yl z (CB z Cy (q.oj p)) (Ro 3 (Wt a p ?_))))));intro a;refine Rc 9 (WC.loopD (fun c f wl=>∃d:Int,Kn 27 [(0,l),(1,m),(5,.i d)] f∧AH w wl∧Lp n i j (fun d=>(some true)) c d=some k) n ?_ ?_)
 ·intro f e;exact⟨0,e.sub z,AH.refl _,a⟩
 ·rintro c f B ⟨d,e,b,a⟩;refine Bp e ?_;rcases c with _|c;exact Bm a;rw [Lp.eq_2]at a;have C:=b.size;refine Rc 5 (Yl z (CB z Cy (o.oj b)) (Ro 3 (Wf a b ?_)));intro a;refine Rc 5 (Bh Tryz.hm (Qr 2 (Iq a (o.oj b) Cy CK ?_)));rintro g D a _ ⟨E,F,G,rfl,I,s,t⟩;obtain rfl:=Bk s;refine Qy z (CQ (us:=[.string g.Name,.i g.Dir,.i g.Cap,.bool g.Clock]) z KZ t CK) (Qr 2 (Iq a (q.oj b) Cy CK ?_));rintro h J a _ ⟨K,L,M,rfl,N,u,v⟩;obtain rfl:=Bk u;refine Qy z (CQ (us:=[.string h.Name,.i h.Dir,.i h.Cap,.bool h.Clock]) z KZ v CK) ?_;have⟨O,x,a⟩:=AG a;refine Ql z (IV z wR fun w' hw'=>(AgL x:)) ?_;refine Qr 1 ?_;refine QL.done fun P r=>?_;have⟨y,Q⟩:=Et b r;refine Re 1 (Wt a y ?_);intro a;refine Rc 9 ?_;intro f e;exact⟨c,nr,(wrap .i64 (d+1)),e.sub z,(AH.trans b r),a⟩
def Uf(n:Nat)(a0:Ab)(a1:Ab):Option Bool:=(WK n a0.Slews a1.Slews).bind fun b=>cond (!b) (some false) ((WK n a0.Loads a1.Loads).bind fun c=>cond (!c) (some false) ((WK n a0.Values a1.Values).bind fun a=>cond (!a) (some false) (some true)))
theorem AlE{e f:Ab}{j:Bool}{k l m o p q:Value}(a:Uf n e f=some j)(E:H<=w.heap.size)(u:AS (AI .i64) w H e.Slews k)(v:AS (AI .i64) w H e.Loads l)(x:AS (AI .i64) w H e.Values m)(y:AS (AI .i64) w H f.Slews o)(A:AS (AI .i64) w H f.Loads p)(B:AS (AI .i64) w H f.Values q):
 Calls prog 261 [.agg #[k,l,m],.agg #[o,p,q]].toArray w (An (.bool j) w):=by
 unfold Uf at a;refine AA func261 z ntmps261 (Rc 2 (Ef z (AF z z) ?_));rintro _ F ⟨G,rfl,I,J,r,b⟩;have K:=r.size;refine Ef z (AF z z) ?_;rintro _ L ⟨M,rfl,N,O,s,c⟩;have⟨i,P⟩:=Et r s;have b:=b.ext s;refine Ro 6 (Fl FG Ah b (Fl FG Ah c ?_));refine Cs a i MG (fun _ d=>(iM d (by omega) (u.oj i) (y.oj i):)) ?_;rintro Q a R C ⟨g,S⟩;have⟨b,c⟩:=Bs b c C;refine Ro 3 (Wt a g ?_);intro a;refine Rc 5 (Fl EW Ah b (Fl EW Ah c ?_));refine Cs a g MG (fun _ d=>(iM d (by omega) (v.oj g) (A.oj g):)) ?_;rintro T a U D ⟨h,V⟩;have⟨b,c⟩:=Bs b c D;refine Ro 3 (Wt a h ?_);intro a;refine Rc 5 (Fl CW Ah b (Fl CW Ah c ?_));refine Cs a h MG (fun _ d=>(iM d (by omega) (x.oj h) (B.oj h):)) ?_;rintro W a X Y ⟨t,Z⟩;refine Ro 3 (Wt a t ?_);intro a;exact Iw a t
def LO(n:Nat)(a0:List Ab)(a1:List Ab)(k0:Int->Option Bool):Nat->Int->Option Bool
 |0,_=>none
 |m+1,a=>cond (decide (a<(a0.length:Int))) ((AE a0 a).bind fun d=>(AE a1 a).bind fun b=>(Uf n d b).bind fun c=>cond (!c) (some false) (LO n a0 a1 k0 m (wrap .i64 (a+1)))) (k0 a)
def Xv(n:Nat)(a0:List Ab)(a1:List Ab):Option Bool:=cond (((a0.length:Int)) !=((a1.length:Int))) (some false) (LO n a0 a1 (fun a=>some true) n 0)
theorem AaU{g h:List Ab}{i:Bool}{j k:Value}(a:Xv n g h=some i)(hH:H<=w.heap.size)(l:AS C_Table w H g j)(o:AS C_Table w H h k):
 Calls prog 246 [j,k].toArray w (An (.bool i) w):=by
 have m:=AH.refl w;unfold Xv at a;refine AA func246 z ntmps246 (Rc 9 (Yl z (CB z EY (l.oj m)) (Ro 1 (Yl z (CB z EY (o.oj m)) (Ro 3 (Wt a m ?_))))));intro a;refine Rc 9 (WC.loopD (fun c f wl=>∃d:Int,Kn 27 [(0,j),(1,k),(5,.i d)] f∧AH w wl∧LO n g h (fun d=>(some true)) c d=some i) n ?_ ?_)
 ·intro f e;exact⟨0,e.sub z,AH.refl _,a⟩
 ·rintro c f L ⟨d,e,b,a⟩;refine Bp e ?_;rcases c with _|c;exact Bm a;rw [LO.eq_2]at a;have M:=b.size;refine Rc 5 (Yl z (CB z EY (l.oj b)) (Ro 3 (Wf a b ?_)));intro a;refine Rc 5 (Bh Tryz.hm (Qr 2 (Iq a (l.oj b) EY DI ?_)));rintro N O a _ ⟨P,Q,R,rfl,S,q,r⟩;obtain⟨s,t,u,rfl,v,x,y⟩:=Ci q;refine Qy z (CQ (us:=[s,t,u]) z Gz r DI) (Qr 2 (Iq a (o.oj b) EY DI ?_));rintro T U a _ ⟨V,W,X,rfl,Y,A,B⟩;obtain⟨C,D,E,rfl,F,G,I⟩:=Ci A;refine Qy z (CQ (us:=[C,D,E]) z Gz B DI) ?_;have⟨Z,J,a⟩:=AG a;refine Ql z (IV z rB fun w' hw'=>(AlE J (Nat.le_trans (by omega) (hw').size) (v.old hw' (by omega)) (x.old hw' (by omega)) (y.old hw' (by omega)) (F.old hw' (by omega)) (G.old hw' (by omega)) (I.old hw' (by omega)):)) ?_;refine Qr 1 ?_;refine QL.done fun a0 p=>?_;have⟨K,b0⟩:=Et b p;refine Re 1 (Wt a K ?_);intro a;refine Rc 9 ?_;intro f e;exact⟨c,nr,(wrap .i64 (d+1)),e.sub z,(AH.trans b p),a⟩
def Vd(n:Nat)(a0:Aq)(a1:Aq):Option Bool:=cond (a0.Kind !=a1.Kind) (some false) (cond (a0.From !=a1.From) (some false) (cond (a0.To !=a1.To) (some false) (cond (a0.Sense !=a1.Sense) (some false) ((Xv n a0.Delay a1.Delay).bind fun a=>cond (!a) (some false) ((Xv n a0.Slew a1.Slew).bind fun b=>cond (!b) (some false) (some true))))))
theorem AiS{d e:Aq}{i:Bool}{j k l m:Value}(a:Vd n d e=some i)(x:H<=w.heap.size)(r:AS C_Table w H d.Delay j)(s:AS C_Table w H d.Slew k)(t:AS C_Table w H e.Delay l)(u:AS C_Table w H e.Slew m):
 Calls prog 227 [.agg #[.i d.Kind,.i d.From,.i d.To,.i d.Sense,j,k],.agg #[.i e.Kind,.i e.From,.i e.To,.i e.Sense,l,m]].toArray w (An (.bool i) w):=by
 unfold Vd at a;refine AA func227 z ntmps227 (Rc 2 (Ef z (AF z z) ?_));rintro _ y ⟨A,rfl,B,C,o,b⟩;have D:=o.size;refine Ef z (AF z z) ?_;rintro _ E ⟨F,rfl,G,I,p,c⟩;have⟨f,J⟩:=Et o p;have b:=b.ext p;refine Ro 6 (Fl Cz AK b (Fl Cz AK c (Ro 3 (Wt a f ?_))));intro a;refine Rc 5 (Fl Cd AK b (Fl Cd AK c (Ro 3 (Wt a f ?_))));intro a;refine Rc 5 (Fl By AK b (Fl By AK c (Ro 3 (Wt a f ?_))));intro a;refine Rc 5 (Fl Cc AK b (Fl Cc AK c (Ro 3 (Wt a f ?_))));intro a;refine Rc 5 (Fl Dq Cw b (Fl Dq Cw c ?_));refine Cs a f fT (fun _ h=>(AaU h (by omega) (r.oj f) (t.oj f):)) ?_;rintro K a L v ⟨g,M⟩;have⟨b,c⟩:=Bs b c v;refine Ro 3 (Wt a g ?_);intro a;refine Rc 5 (Fl Dp Cw b (Fl Dp Cw c ?_));refine Cs a g fT (fun _ h=>(AaU h (by omega) (s.oj g) (u.oj g):)) ?_;rintro N a O P ⟨q,Q⟩;refine Ro 3 (Wt a q ?_);intro a;exact Iw a q
def Lx(n:Nat)(a0:List Aq)(a1:List Aq)(k0:Int->Option Bool):Nat->Int->Option Bool
 |0,_=>none
 |m+1,a=>cond (decide (a<(a0.length:Int))) ((AE a0 a).bind fun d=>(AE a1 a).bind fun b=>(Vd n d b).bind fun c=>cond (!c) (some false) (Lx n a0 a1 k0 m (wrap .i64 (a+1)))) (k0 a)
def dS(n:Nat)(a0:List Aq)(a1:List Aq):Option Bool:=cond (((a0.length:Int)) !=((a1.length:Int))) (some false) (Lx n a0 a1 (fun a=>some true) n 0)
theorem AiR{i j:List Aq}{k:Bool}{l m:Value}(a:dS n i j=some k)(J:H<=w.heap.size)(o:AS C_Arc w H i l)(q:AS C_Arc w H j m):
 Calls prog 194 [l,m].toArray w (An (.bool k) w):=by
 have p:=AH.refl w;unfold dS at a;refine AA func194 z ntmps194 (Rc 9 (Yl z (CB z Ch (o.oj p)) (Ro 1 (Yl z (CB z Ch (q.oj p)) (Ro 3 (Wt a p ?_))))));intro a;refine Rc 9 (WC.loopD (fun c f wl=>∃d:Int,Kn 27 [(0,l),(1,m),(5,.i d)] f∧AH w wl∧Lx n i j (fun d=>(some true)) c d=some k) n ?_ ?_)
 ·intro f e;exact⟨0,e.sub z,AH.refl _,a⟩
 ·rintro c f K ⟨d,e,b,a⟩;refine Bp e ?_;rcases c with _|c;exact Bm a;rw [Lx.eq_2]at a;have L:=b.size;refine Rc 5 (Yl z (CB z Ch (o.oj b)) (Ro 3 (Wf a b ?_)));intro a;refine Rc 5 (Bh Tryz.hm (Qr 2 (Iq a (o.oj b) Ch BU ?_)));rintro g M a _ ⟨N,O,P,rfl,Q,s,t⟩;obtain⟨u,v,rfl,x,y⟩:=Bj s;refine Qy z (CQ (us:=[.i g.Kind,.i g.From,.i g.To,.i g.Sense,u,v]) z En t BU) (Qr 2 (Iq a (q.oj b) Ch BU ?_));rintro h R a _ ⟨S,T,U,rfl,V,A,B⟩;obtain⟨C,D,rfl,E,F⟩:=Bj A;refine Qy z (CQ (us:=[.i h.Kind,.i h.From,.i h.To,.i h.Sense,C,D]) z En B BU) ?_;have⟨W,G,a⟩:=AG a;refine Ql z (IV z sZ fun w' hw'=>(AiS G (Nat.le_trans (by omega) (hw').size) (x.old hw' (by omega)) (y.old hw' (by omega)) (E.old hw' (by omega)) (F.old hw' (by omega)):)) ?_;refine Qr 1 ?_;refine QL.done fun X r=>?_;have⟨I,Y⟩:=Et b r;refine Re 1 (Wt a I ?_);intro a;refine Rc 9 ?_;intro f e;exact⟨c,nr,(wrap .i64 (d+1)),e.sub z,(AH.trans b r),a⟩
def VJ(n:Nat)(a0:Af)(a1:Af):Option Bool:=cond (a0.Name.toList !=a1.Name.toList) (some false) (cond (a0.Kind !=a1.Kind) (some false) ((bM n a0.Pins a1.Pins).bind fun b=>cond (!b) (some false) ((dS n a0.Arcs a1.Arcs).bind fun c=>cond (!c) (some false) ((WK n a0.Truth a1.Truth).bind fun a=>cond (!a) (some false) (cond (a0.Leak !=a1.Leak) (some false) (cond (a0.Energy !=a1.Energy) (some false) (some true)))))))
theorem AjQ{d e:Af}{k:Bool}{l m o p q r:Value}(a:VJ n d e=some k)(F:H<=w.heap.size)(u:AS C_Pin w H d.Pins l)(v:AS C_Arc w H d.Arcs m)(x:AS (AI .i64) w H d.Truth o)(y:AS C_Pin w H e.Pins p)(A:AS C_Arc w H e.Arcs q)(B:AS (AI .i64) w H e.Truth r):
 Calls prog 151 [.agg #[.string d.Name,.i d.Kind,l,m,o,.i d.Leak,.i d.Energy],.agg #[.string e.Name,.i e.Kind,p,q,r,.i e.Leak,.i e.Energy]].toArray w (An (.bool k) w):=by
 unfold VJ at a;refine AA func151 z ntmps151 (Rc 2 (Ef z (AF z z) ?_));rintro _ G ⟨I,rfl,J,K,s,b⟩;have L:=s.size;refine Ef z (AF z z) ?_;rintro _ M ⟨N,rfl,O,P,t,c⟩;have⟨f,Q⟩:=Et s t;have b:=b.ext t;refine Ro 6 (Fl Fb Dy b (Fl Fb Dy c (Ro 3 (Wt a f ?_))));intro a;refine Rc 5 (Fl In AK b (Fl In AK c (Ro 3 (Wt a f ?_))));intro a;refine Rc 5 (Fl Bu DZ b (Fl Bu DZ c ?_));refine Cs a f uR (fun _ g=>(AgW g (by omega) (u.oj f) (y.oj f):)) ?_;rintro R a S C ⟨h,T⟩;have⟨b,c⟩:=Bs b c C;refine Ro 3 (Wt a h ?_);intro a;refine Rc 5 (Fl CX EQ b (Fl CX EQ c ?_));refine Cs a h pX (fun _ g=>(AiR g (by omega) (v.oj h) (A.oj h):)) ?_;rintro U a V D ⟨i,W⟩;have⟨b,c⟩:=Bs b c D;refine Ro 3 (Wt a i ?_);intro a;refine Rc 5 (Fl EC Ah b (Fl EC Ah c ?_));refine Cs a i MG (fun _ g=>(iM g (by omega) (x.oj i) (B.oj i):)) ?_;rintro X a Y E ⟨j,Z⟩;have⟨b,c⟩:=Bs b c E;refine Ro 3 (Wt a j ?_);intro a;refine Rc 5 (Fl Ia AK b (Fl Ia AK c (Ro 3 (Wt a j ?_))));intro a;refine Rc 5 (Fl Ie AK b (Fl Ie AK c (Ro 3 (Wt a j ?_))));intro a;exact Iw a j
def La(n:Nat)(a0:List Af)(a1:List Af)(k0:Int->Option Bool):Nat->Int->Option Bool
 |0,_=>none
 |m+1,a=>cond (decide (a<(a0.length:Int))) ((AE a0 a).bind fun d=>(AE a1 a).bind fun b=>(VJ n d b).bind fun c=>cond (!c) (some false) (La n a0 a1 k0 m (wrap .i64 (a+1)))) (k0 a)
def ZQ(n:Nat)(a0:List Af)(a1:List Af):Option Bool:=cond (((a0.length:Int)) !=((a1.length:Int))) (some false) (La n a0 a1 (fun a=>some true) n 0)
theorem AjY{i j:List Af}{k:Bool}{l m:Value}(a:ZQ n i j=some k)(hH:H<=w.heap.size)(o:AS C_Cell w H i l)(q:AS C_Cell w H j m):
 Calls prog 98 [l,m].toArray w (An (.bool k) w):=by
 have p:=AH.refl w;unfold ZQ at a;refine AA func98 z ntmps98 (Rc 9 (Yl z (CB z Ex (o.oj p)) (Ro 1 (Yl z (CB z Ex (q.oj p)) (Ro 3 (Wt a p ?_))))));intro a;refine Rc 9 (WC.loopD (fun c f wl=>∃d:Int,Kn 27 [(0,l),(1,m),(5,.i d)] f∧AH w wl∧La n i j (fun d=>(some true)) c d=some k) n ?_ ?_)
 ·intro f e;exact⟨0,e.sub z,AH.refl _,a⟩
 ·rintro c f N ⟨d,e,b,a⟩;refine Bp e ?_;rcases c with _|c;exact Bm a;rw [La.eq_2]at a;have O:=b.size;refine Rc 5 (Yl z (CB z Ex (o.oj b)) (Ro 3 (Wf a b ?_)));intro a;refine Rc 5 (Bh Tryz.hm (Qr 2 (Iq a (o.oj b) Ex BW ?_)));rintro g P a _ ⟨Q,R,S,rfl,T,s,t⟩;obtain⟨u,v,x,rfl,y,A,B⟩:=Bo s;refine Qy z (CQ (us:=[.string g.Name,.i g.Kind,u,v,x,.i g.Leak,.i g.Energy]) z DO t BW) (Qr 2 (Iq a (q.oj b) Ex BW ?_));rintro h U a _ ⟨V,W,X,rfl,Y,C,D⟩;obtain⟨E,F,G,rfl,I,J,K⟩:=Bo C;refine Qy z (CQ (us:=[.string h.Name,.i h.Kind,E,F,G,.i h.Leak,.i h.Energy]) z DO D BW) ?_;have⟨Z,L,a⟩:=AG a;refine Ql z (IV z sV fun w' hw'=>(AjQ L (Nat.le_trans (by omega) (hw').size) (y.old hw' (by omega)) (A.old hw' (by omega)) (B.old hw' (by omega)) (I.old hw' (by omega)) (J.old hw' (by omega)) (K.old hw' (by omega)):)) ?_;refine Qr 1 ?_;refine QL.done fun a0 r=>?_;have⟨M,b0⟩:=Et b r;refine Re 1 (Wt a M ?_);intro a;refine Rc 9 ?_;intro f e;exact⟨c,nr,(wrap .i64 (d+1)),e.sub z,(AH.trans b r),a⟩
def eA(n:Nat)(a0:Ad)(a1:Ad):Option Bool:=(ZQ n a0.Cells a1.Cells).bind fun a=>cond (!a) (some false) (some true)
theorem AeN{d e:Ad}{f:Bool}{g h:Value}(a:eA n d e=some f)(q:H<=w.heap.size)(l:AS C_Cell w H d.Cells g)(m:AS C_Cell w H e.Cells h):
 Calls prog 47 [.agg #[g],.agg #[h]].toArray w (An (.bool f) w):=by
 unfold eA at a;refine AA func47 z ntmps47 (Rc 2 (Ef z (AF z z) ?_));rintro _ r ⟨s,rfl,t,u,i,b⟩;have v:=i.size;refine Ef z (AF z z) ?_;rintro _ x ⟨y,rfl,A,B,j,o⟩;have⟨c,C⟩:=Et i j;have b:=b.ext j;refine Ro 6 (Fl DD FS b (Fl DD FS o ?_));refine Cs a c AcP (fun _ p=>(AjY p (by omega) (l.oj c) (m.oj c):)) ?_;rintro D a E F ⟨k,G⟩;refine Ro 3 (Wt a k ?_);intro a;exact Iw a k
def VI(n:Nat)(a0:AX)(a1:AX):Option Bool:=cond (a0.Name.toList !=a1.Name.toList) (some false) (cond (a0.Cell !=a1.Cell) (some false) ((WK n a0.Nets a1.Nets).bind fun a=>cond (!a) (some false) (some true)))
theorem AkY{d e:AX}{g:Bool}{h i:Value}(a:VI n d e=some g)(q:H<=w.heap.size)(m:AS (AI .i64) w H d.Nets h)(o:AS (AI .i64) w H e.Nets i):
 Calls prog 152 [.agg #[.string d.Name,.i d.Cell,h],.agg #[.string e.Name,.i e.Cell,i]].toArray w (An (.bool g) w):=by
 unfold VI at a;refine AA func152 z ntmps152 (Rc 2 (Ef z (AF z z) ?_));rintro _ r ⟨s,rfl,t,u,j,b⟩;have v:=j.size;refine Ef z (AF z z) ?_;rintro _ x ⟨y,rfl,A,B,k,f⟩;have⟨c,C⟩:=Et j k;have b:=b.ext k;refine Ro 6 (Fl IS Dy b (Fl IS Dy f (Ro 3 (Wt a c ?_))));intro a;refine Rc 5 (Fl Ds AK b (Fl Ds AK f (Ro 3 (Wt a c ?_))));intro a;refine Rc 5 (Fl DU Ah b (Fl DU Ah f ?_));refine Cs a c MG (fun _ p=>(iM p (by omega) (m.oj c) (o.oj c):)) ?_;rintro D a E F ⟨l,G⟩;refine Ro 3 (Wt a l ?_);intro a;exact Iw a l
def Le(n:Nat)(a0:List AX)(a1:List AX)(k0:Int->Option Bool):Nat->Int->Option Bool
 |0,_=>none
 |m+1,a=>cond (decide (a<(a0.length:Int))) ((AE a0 a).bind fun d=>(AE a1 a).bind fun b=>(VI n d b).bind fun c=>cond (!c) (some false) (Le n a0 a1 k0 m (wrap .i64 (a+1)))) (k0 a)
def cR(n:Nat)(a0:List AX)(a1:List AX):Option Bool:=cond (((a0.length:Int)) !=((a1.length:Int))) (some false) (Le n a0 a1 (fun a=>some true) n 0)
theorem AkD{g h:List AX}{i:Bool}{j k:Value}(a:cR n g h=some i)(E:H<=w.heap.size)(l:AS C_Instance w H g j)(o:AS C_Instance w H h k):
 Calls prog 99 [j,k].toArray w (An (.bool i) w):=by
 have m:=AH.refl w;unfold cR at a;refine AA func99 z ntmps99 (Rc 9 (Yl z (CB z Ev (l.oj m)) (Ro 1 (Yl z (CB z Ev (o.oj m)) (Ro 3 (Wt a m ?_))))));intro a;refine Rc 9 (WC.loopD (fun c f wl=>∃d:Int,Kn 27 [(0,j),(1,k),(5,.i d)] f∧AH w wl∧Le n g h (fun d=>(some true)) c d=some i) n ?_ ?_)
 ·intro f e;exact⟨0,e.sub z,AH.refl _,a⟩
 ·rintro c f F ⟨d,e,b,a⟩;refine Bp e ?_;rcases c with _|c;exact Bm a;rw [Le.eq_2]at a;have G:=b.size;refine Rc 5 (Yl z (CB z Ev (l.oj b)) (Ro 3 (Wf a b ?_)));intro a;refine Rc 5 (Bh Tryz.hm (Qr 2 (Iq a (l.oj b) Ev Br ?_)));rintro p I a _ ⟨J,K,L,rfl,M,s,t⟩;obtain⟨u,rfl,v⟩:=BJ s;refine Qy z (CQ (us:=[.string p.Name,.i p.Cell,u]) z Gm t Br) (Qr 2 (Iq a (o.oj b) Ev Br ?_));rintro q N a _ ⟨O,P,Q,rfl,R,x,y⟩;obtain⟨A,rfl,B⟩:=BJ x;refine Qy z (CQ (us:=[.string q.Name,.i q.Cell,A]) z Gm y Br) ?_;have⟨S,C,a⟩:=AG a;refine Ql z (IV z wQ fun w' hw'=>(AkY C (Nat.le_trans (by omega) (hw').size) (v.old hw' (by omega)) (B.old hw' (by omega)):)) ?_;refine Qr 1 ?_;refine QL.done fun T r=>?_;have⟨D,U⟩:=Et b r;refine Re 1 (Wt a D ?_);intro a;refine Rc 9 ?_;intro f e;exact⟨c,nr,(wrap .i64 (d+1)),e.sub z,(AH.trans b r),a⟩
def LX(a0:List ByteArray)(a1:List ByteArray)(k0:Int->Option Bool):Nat->Int->Option Bool
 |0,_=>none
 |m+1,a=>cond (decide (a<(a0.length:Int))) ((AE a0 a).bind fun c=>(AE a1 a).bind fun b=>cond (c.toList !=b.toList) (some false) (LX a0 a1 k0 m (wrap .i64 (a+1)))) (k0 a)
def aT(n:Nat)(a0:List ByteArray)(a1:List ByteArray):Option Bool:=cond (((a0.length:Int)) !=((a1.length:Int))) (some false) (LX a0 a1 (fun a=>some true) n 0)
theorem AkO{g h:List ByteArray}{i:Bool}{j k:Value}(a:aT n g h=some i)(r:H<=w.heap.size)(l:AS Au w H g j)(o:AS Au w H h k):
 Calls prog 100 [j,k].toArray w (An (.bool i) w):=by
 have m:=AH.refl w;unfold aT at a;refine AA func100 z ntmps100 (Rc 9 (Yl z (CB z DV (l.oj m)) (Ro 1 (Yl z (CB z DV (o.oj m)) (Ro 3 (Wt a m ?_))))));intro a;refine Rc 9 (WC.loopD (fun c f wl=>∃d:Int,Kn 26 [(0,j),(1,k),(5,.i d)] f∧AH w wl∧LX g h (fun d=>(some true)) c d=some i) n ?_ ?_)
 ·intro f e;exact⟨0,e.sub z,AH.refl _,a⟩
 ·rintro c f s ⟨d,e,b,a⟩;refine Bp e ?_;rcases c with _|c;exact Bm a;rw [LX.eq_2]at a;have t:=b.size;refine Rc 5 (Yl z (CB z DV (l.oj b)) (Ro 3 (Wf a b ?_)));intro a;refine Rc 5 (Bh Tryz.hm (Qr 2 (Og a (l.oj b) DV HV Dy ?_)));rintro u a _;refine Qr 2 (Og a (o.oj b) DV HV Dy ?_);rintro v a _;refine Qr 1 ?_;refine QL.done fun x p=>?_;have⟨q,y⟩:=Et b p;refine Re 1 (Wt a q ?_);intro a;refine Rc 9 ?_;intro f e;exact⟨c,nr,(wrap .i64 (d+1)),e.sub z,(AH.trans b p),a⟩
def VN(n:Nat)(a0:BN)(a1:BN):Option Bool:=cond (a0.Name.toList !=a1.Name.toList) (some false) (cond (a0.Dir !=a1.Dir) (some false) (cond (a0.Net !=a1.Net) (some false) (some true)))
theorem AdL{c d:BN}{g:Bool}(a:VN n c d=some g):
 Calls prog 153 [.agg #[.string c.Name,.i c.Dir,.i c.Net],.agg #[.string d.Name,.i d.Dir,.i d.Net]].toArray w (An (.bool g) w):=by
 unfold VN at a;refine AA func153 z ntmps153 (Rc 2 (Ef z (AF z z) ?_));rintro _ i ⟨j,rfl,k,l,h,b⟩;have m:=h.size;refine Ef z (AF z z) ?_;rintro _ o ⟨p,rfl,q,r,H,f⟩;have⟨e,s⟩:=Et h H;have b:=b.ext H;refine Ro 6 (Fl Im Dy b (Fl Im Dy f (Ro 3 (Wt a e ?_))));intro a;refine Rc 5 (Fl Ej AK b (Fl Ej AK f (Ro 3 (Wt a e ?_))));intro a;refine Rc 5 (Fl FC AK b (Fl FC AK f (Ro 3 (Wt a e ?_))));intro a;exact Iw a e
def LN(n:Nat)(a0:List BN)(a1:List BN)(k0:Int->Option Bool):Nat->Int->Option Bool
 |0,_=>none
 |m+1,a=>cond (decide (a<(a0.length:Int))) ((AE a0 a).bind fun d=>(AE a1 a).bind fun b=>(VN n d b).bind fun c=>cond (!c) (some false) (LN n a0 a1 k0 m (wrap .i64 (a+1)))) (k0 a)
def Zp(n:Nat)(a0:List BN)(a1:List BN):Option Bool:=cond (((a0.length:Int)) !=((a1.length:Int))) (some false) (LN n a0 a1 (fun a=>some true) n 0)
theorem AjX{g h:List BN}{i:Bool}{j k:Value}(a:Zp n g h=some i)(A:H<=w.heap.size)(l:AS C_Port w H g j)(q:AS C_Port w H h k):
 Calls prog 101 [j,k].toArray w (An (.bool i) w):=by
 have m:=AH.refl w;unfold Zp at a;refine AA func101 z ntmps101 (Rc 9 (Yl z (CB z FX (l.oj m)) (Ro 1 (Yl z (CB z FX (q.oj m)) (Ro 3 (Wt a m ?_))))));intro a;refine Rc 9 (WC.loopD (fun c f wl=>∃d:Int,Kn 27 [(0,j),(1,k),(5,.i d)] f∧AH w wl∧LN n g h (fun d=>(some true)) c d=some i) n ?_ ?_)
 ·intro f e;exact⟨0,e.sub z,AH.refl _,a⟩
 ·rintro c f B ⟨d,e,b,a⟩;refine Bp e ?_;rcases c with _|c;exact Bm a;rw [LN.eq_2]at a;have C:=b.size;refine Rc 5 (Yl z (CB z FX (l.oj b)) (Ro 3 (Wf a b ?_)));intro a;refine Rc 5 (Bh Tryz.hm (Qr 2 (Iq a (l.oj b) FX Cv ?_)));rintro o D a _ ⟨E,F,G,rfl,I,s,t⟩;obtain rfl:=CI s;refine Qy z (CQ (us:=[.string o.Name,.i o.Dir,.i o.Net]) z NC t Cv) (Qr 2 (Iq a (q.oj b) FX Cv ?_));rintro p J a _ ⟨K,L,M,rfl,N,u,v⟩;obtain rfl:=CI u;refine Qy z (CQ (us:=[.string p.Name,.i p.Dir,.i p.Net]) z NC v Cv) ?_;have⟨O,x,a⟩:=AG a;refine Ql z (IV z vA fun w' hw'=>(AdL x:)) ?_;refine Qr 1 ?_;refine QL.done fun P r=>?_;have⟨y,Q⟩:=Et b r;refine Re 1 (Wt a y ?_);intro a;refine Rc 9 ?_;intro f e;exact⟨c,nr,(wrap .i64 (d+1)),e.sub z,(AH.trans b r),a⟩
def bY(n:Nat)(a0:AQ)(a1:AQ):Option Bool:=(cR n a0.Instances a1.Instances).bind fun b=>cond (!b) (some false) ((aT n a0.Nets a1.Nets).bind fun c=>cond (!c) (some false) ((Zp n a0.Ports a1.Ports).bind fun a=>cond (!a) (some false) (some true)))
theorem AlH{e f:AQ}{j:Bool}{k l m o p q:Value}(a:bY n e f=some j)(E:H<=w.heap.size)(u:AS C_Instance w H e.Instances k)(v:AS Au w H e.Nets l)(x:AS C_Port w H e.Ports m)(y:AS C_Instance w H f.Instances o)(A:AS Au w H f.Nets p)(B:AS C_Port w H f.Ports q):
 Calls prog 48 [.agg #[k,l,m],.agg #[o,p,q]].toArray w (An (.bool j) w):=by
 unfold bY at a;refine AA func48 z ntmps48 (Rc 2 (Ef z (AF z z) ?_));rintro _ F ⟨G,rfl,I,J,r,b⟩;have K:=r.size;refine Ef z (AF z z) ?_;rintro _ L ⟨M,rfl,N,O,s,c⟩;have⟨i,P⟩:=Et r s;have b:=b.ext s;refine Ro 6 (Fl Cb Ew b (Fl Cb Ew c ?_));refine Cs a i zM (fun _ d=>(AkD d (by omega) (u.oj i) (y.oj i):)) ?_;rintro Q a R C ⟨g,S⟩;have⟨b,c⟩:=Bs b c C;refine Ro 3 (Wt a g ?_);intro a;refine Rc 5 (Fl EN HC b (Fl EN HC c ?_));refine Cs a g wI (fun _ d=>(AkO d (by omega) (v.oj g) (A.oj g):)) ?_;rintro T a U D ⟨h,V⟩;have⟨b,c⟩:=Bs b c D;refine Ro 3 (Wt a h ?_);intro a;refine Rc 5 (Fl DX Fw b (Fl DX Fw c ?_));refine Cs a h vD (fun _ d=>(AjX d (by omega) (x.oj h) (B.oj h):)) ?_;rintro W a X Y ⟨t,Z⟩;refine Ro 3 (Wt a t ?_);intro a;exact Iw a t
def UT(n:Nat)(a0:Aw)(a1:Aw):Option Bool:=(WK n a0.Parent a1.Parent).bind fun d=>cond (!d) (some false) ((WK n a0.Res a1.Res).bind fun b=>cond (!b) (some false) ((WK n a0.Cap a1.Cap).bind fun c=>cond (!c) (some false) ((WK n a0.Sink a1.Sink).bind fun a=>cond (!a) (some false) (some true))))
theorem AiK{e f:Aw}{k:Bool}{l m o p q r s t:Value}(a:UT n e f=some k)(L:H<=w.heap.size)(y:AS (AI .i64) w H e.Parent l)(A:AS (AI .i64) w H e.Res m)(B:AS (AI .i64) w H e.Cap o)(C:AS (AI .i64) w H e.Sink p)(D:AS (AI .i64) w H f.Parent q)(E:AS (AI .i64) w H f.Res r)(F:AS (AI .i64) w H f.Cap s)(G:AS (AI .i64) w H f.Sink t):
 Calls prog 102 [.agg #[l,m,o,p],.agg #[q,r,s,t]].toArray w (An (.bool k) w):=by
 unfold UT at a;refine AA func102 z ntmps102 (Rc 2 (Ef z (AF z z) ?_));rintro _ M ⟨N,rfl,O,P,u,b⟩;have Q:=u.size;refine Ef z (AF z z) ?_;rintro _ R ⟨S,rfl,T,U,v,c⟩;have⟨j,V⟩:=Et u v;have b:=b.ext v;refine Ro 6 (Fl EG Ah b (Fl EG Ah c ?_));refine Cs a j MG (fun _ d=>(iM d (by omega) (y.oj j) (D.oj j):)) ?_;rintro W a X I ⟨g,Y⟩;have⟨b,c⟩:=Bs b c I;refine Ro 3 (Wt a g ?_);intro a;refine Rc 5 (Fl EV Ah b (Fl EV Ah c ?_));refine Cs a g MG (fun _ d=>(iM d (by omega) (A.oj g) (E.oj g):)) ?_;rintro Z a a0 J ⟨h,b0⟩;have⟨b,c⟩:=Bs b c J;refine Ro 3 (Wt a h ?_);intro a;refine Rc 5 (Fl FH Ah b (Fl FH Ah c ?_));refine Cs a h MG (fun _ d=>(iM d (by omega) (B.oj h) (F.oj h):)) ?_;rintro c0 a d0 K ⟨i,e0⟩;have⟨b,c⟩:=Bs b c K;refine Ro 3 (Wt a i ?_);intro a;refine Rc 5 (Fl Dd Ah b (Fl Dd Ah c ?_));refine Cs a i MG (fun _ d=>(iM d (by omega) (C.oj i) (G.oj i):)) ?_;rintro f0 a g0 h0 ⟨x,i0⟩;refine Ro 3 (Wt a x ?_);intro a;exact Iw a x
def LU(n:Nat)(a0:List Aw)(a1:List Aw)(k0:Int->Option Bool):Nat->Int->Option Bool
 |0,_=>none
 |m+1,a=>cond (decide (a<(a0.length:Int))) ((AE a0 a).bind fun d=>(AE a1 a).bind fun b=>(UT n d b).bind fun c=>cond (!c) (some false) (LU n a0 a1 k0 m (wrap .i64 (a+1)))) (k0 a)
def bT(n:Nat)(a0:List Aw)(a1:List Aw):Option Bool:=cond (((a0.length:Int)) !=((a1.length:Int))) (some false) (LU n a0 a1 (fun a=>some true) n 0)
theorem AeR{g h:List Aw}{i:Bool}{j k:Value}(a:bT n g h=some i)(hH:H<=w.heap.size)(l:AS C_Wire w H g j)(o:AS C_Wire w H h k):
 Calls prog 49 [j,k].toArray w (An (.bool i) w):=by
 have m:=AH.refl w;unfold bT at a;refine AA func49 z ntmps49 (Rc 9 (Yl z (CB z FU (l.oj m)) (Ro 1 (Yl z (CB z FU (o.oj m)) (Ro 3 (Wt a m ?_))))));intro a;refine Rc 9 (WC.loopD (fun c f wl=>∃d:Int,Kn 27 [(0,j),(1,k),(5,.i d)] f∧AH w wl∧LU n g h (fun d=>(some true)) c d=some i) n ?_ ?_)
 ·intro f e;exact⟨0,e.sub z,AH.refl _,a⟩
 ·rintro c f P ⟨d,e,b,a⟩;refine Bp e ?_;rcases c with _|c;exact Bm a;rw [LU.eq_2]at a;have Q:=b.size;refine Rc 5 (Yl z (CB z FU (l.oj b)) (Ro 3 (Wf a b ?_)));intro a;refine Rc 5 (Bh Tryz.hm (Qr 2 (Iq a (l.oj b) FU CF ?_)));rintro R S a _ ⟨T,U,V,rfl,W,q,r⟩;obtain⟨s,t,u,v,rfl,x,y,A,B⟩:=CL q;refine Qy z (CQ (us:=[s,t,u,v]) z Gu r CF) (Qr 2 (Iq a (o.oj b) FU CF ?_));rintro X Y a _ ⟨Z,a0,b0,rfl,c0,C,D⟩;obtain⟨E,F,G,I,rfl,J,K,L,M⟩:=CL C;refine Qy z (CQ (us:=[E,F,G,I]) z Gu D CF) ?_;have⟨d0,N,a⟩:=AG a;refine Ql z (IV z rS fun w' hw'=>(AiK N (Nat.le_trans (by omega) (hw').size) (x.old hw' (by omega)) (y.old hw' (by omega)) (A.old hw' (by omega)) (B.old hw' (by omega)) (J.old hw' (by omega)) (K.old hw' (by omega)) (L.old hw' (by omega)) (M.old hw' (by omega)):)) ?_;refine Qr 1 ?_;refine QL.done fun e0 p=>?_;have⟨O,f0⟩:=Et b p;refine Re 1 (Wt a O ?_);intro a;refine Rc 9 ?_;intro f e;exact⟨c,nr,(wrap .i64 (d+1)),e.sub z,(AH.trans b p),a⟩
def Zx(n:Nat)(a0:AM)(a1:AM):Option Bool:=(eA n a0.Library a1.Library).bind fun b=>cond (!b) (some false) ((bY n a0.Design a1.Design).bind fun c=>cond (!c) (some false) ((bT n a0.Wires a1.Wires).bind fun a=>cond (!a) (some false) (some true)))
theorem AgB{e f:AM}{s:Bool}{h i j k t l m o p u:Value}(a:Zx n e f=some s)(N:H<=w.heap.size)(A:AS C_Cell w H e.Library.Cells h)(B:AS C_Instance w H e.Design.Instances i)(C:AS Au w H e.Design.Nets j)(D:AS C_Port w H e.Design.Ports k)(E:AS C_Wire w H e.Wires t)(F:AS C_Cell w H f.Library.Cells l)(G:AS C_Instance w H f.Design.Instances m)(I:AS Au w H f.Design.Nets o)(J:AS C_Port w H f.Design.Ports p)(K:AS C_Wire w H f.Wires u):
 Calls prog 16 [.agg #[h,i,j,k,t],.agg #[l,m,o,p,u]].toArray w (An (.bool s) w):=by
 unfold Zx at a;refine AA func16 z ntmps16 (Rc 2 (Ef z (AF z z) ?_));rintro _ O ⟨P,rfl,Q,R,v,b⟩;have S:=v.size;refine Ef z (AF z z) ?_;rintro _ T ⟨U,rfl,V,W,x,d⟩;have⟨r,X⟩:=Et v x;have b:=b.ext x;refine Ro 6 (Yl z (BI z FL) (Yl z (CQ (us:=[h]) z Ib (AP.sub (Aj.cells b) 0 1:AP _ _ _ [h]) Hb) (Yl z (BI z FL) (Yl z (CQ (us:=[l]) z Ib (AP.sub (Aj.cells d) 0 1:AP _ _ _ [l]) Hb) ?_))));refine Cs a r AcZ (fun _ g=>(AeN g (by omega) (A.oj r) (F.oj r):)) ?_;rintro Y a Z L ⟨c,a0⟩;have⟨b,d⟩:=Bs b d L;refine Ro 3 (Wt a c ?_);intro a;refine Rc 5 (Yl z (BI z CZ) (Yl z (CQ (us:=[i,j,k]) z DW (AP.sub (Aj.cells b) 1 3:AP _ _ _ [i,j,k]) DC) (Yl z (BI z CZ) (Yl z (CQ (us:=[m,o,p]) z DW (AP.sub (Aj.cells d) 1 3:AP _ _ _ [m,o,p]) DC) ?_))));refine Cs a c AbT (fun _ g=>(AlH g (by omega) (B.oj c) (C.oj c) (D.oj c) (G.oj c) (I.oj c) (J.oj c):)) ?_;rintro b0 a c0 M ⟨q,d0⟩;have⟨b,d⟩:=Bs b d M;refine Ro 3 (Wt a q ?_);intro a;refine Rc 5 (Fl DE FT b (Fl DE FT d ?_));refine Cs a q yL (fun _ g=>(AeR g (by omega) (E.oj q) (K.oj q):)) ?_;rintro e0 a f0 g0 ⟨y,h0⟩;refine Ro 3 (Wt a y ?_);intro a;exact Iw a y
def aD(n:Nat)(a0:Ap)(a1:Ap):Option Bool:=(YD n a0.Reached a1.Reached).bind fun b=>cond (!b) (some false) ((Un n a0.Arrival a1.Arrival).bind fun c=>cond (!c) (some false) ((Un n a0.Slew a1.Slew).bind fun a=>cond (!a) (some false) (some true)))
theorem AgE{e f:Ap}{j:Bool}{k l m o p q:Value}(a:aD n e f=some j)(E:H<=w.heap.size)(u:AS Am w H e.Reached k)(v:AS C_Span w H e.Arrival l)(x:AS C_Span w H e.Slew m)(y:AS Am w H f.Reached o)(A:AS C_Span w H f.Arrival p)(B:AS C_Span w H f.Slew q):
 Calls prog 18 [.agg #[k,l,m],.agg #[o,p,q]].toArray w (An (.bool j) w):=by
 unfold aD at a;refine AA func18 z ntmps18 (Rc 2 (Ef z (AF z z) ?_));rintro _ F ⟨G,rfl,I,J,r,b⟩;have K:=r.size;refine Ef z (AF z z) ?_;rintro _ L ⟨M,rfl,N,O,s,c⟩;have⟨i,P⟩:=Et r s;have b:=b.ext s;refine Ro 6 (Fl Fh EI b (Fl Fh EI c ?_));refine Cs a i pG (fun _ d=>(AbR d (by omega) (u.oj i) (y.oj i):)) ?_;rintro Q a R C ⟨g,S⟩;have⟨b,c⟩:=Bs b c C;refine Ro 3 (Wt a g ?_);intro a;refine Rc 5 (Fl GS DS b (Fl GS DS c ?_));refine Cs a g ZF (fun _ d=>(qP d (by omega) (v.oj g) (A.oj g):)) ?_;rintro T a U D ⟨h,V⟩;have⟨b,c⟩:=Bs b c D;refine Ro 3 (Wt a h ?_);intro a;refine Rc 5 (Fl Er DS b (Fl Er DS c ?_));refine Cs a h ZF (fun _ d=>(qP d (by omega) (x.oj h) (B.oj h):)) ?_;rintro W a X Y ⟨t,Z⟩;refine Ro 3 (Wt a t ?_);intro a;exact Iw a t
def Vu(n:Nat)(a0:AJ)(a1:AJ):Option Bool:=cond (a0.Node !=a1.Node) (some false) ((SP n a0.Required a1.Required).bind fun a=>cond (!a) (some false) (some true))
theorem AeC{a b:AJ}{e:Bool}(c:Vu n a b=some e):
 Calls prog 50 [.agg #[.i a.Node,.i a.Required.Early,.i a.Required.Late],.agg #[.i b.Node,.i b.Required.Early,.i b.Required.Late]].toArray w (An (.bool e) w):=by
 unfold Vu at c;refine AA func50 z ntmps50 (Rc 2 (Ef z (AF z z) ?_));rintro _ j ⟨k,rfl,l,m,H,d⟩;have o:=H.size;refine Ef z (AF z z) ?_;rintro _ p ⟨q,rfl,r,s,f,g⟩;have⟨h,t⟩:=Et H f;have d:=d.ext f;refine Ro 6 (Fl FK AK d (Fl FK AK g (Ro 3 (Wt c h ?_))));intro c;refine Rc 5 (Yl z (BI z Dh) (Yl z (CQ (us:=[.i a.Required.Early,.i a.Required.Late]) z CR (AP.sub (Aj.cells d) 1 2:AP _ _ _ [.i a.Required.Early,.i a.Required.Late]) Ax) (Yl z (BI z Dh) (Yl z (CQ (us:=[.i b.Required.Early,.i b.Required.Late]) z CR (AP.sub (Aj.cells g) 1 2:AP _ _ _ [.i b.Required.Early,.i b.Required.Late]) Ax) ?_))));refine Cs c h oF (fun _=>AaJ) ?_;rintro u c v x ⟨i,y⟩;refine Ro 3 (Wt c i ?_);intro c;exact Iw c i
def Lj(n:Nat)(a0:List AJ)(a1:List AJ)(k0:Int->Option Bool):Nat->Int->Option Bool
 |0,_=>none
 |m+1,a=>cond (decide (a<(a0.length:Int))) ((AE a0 a).bind fun d=>(AE a1 a).bind fun b=>(Vu n d b).bind fun c=>cond (!c) (some false) (Lj n a0 a1 k0 m (wrap .i64 (a+1)))) (k0 a)
def Zn(n:Nat)(a0:List AJ)(a1:List AJ):Option Bool:=cond (((a0.length:Int)) !=((a1.length:Int))) (some false) (Lj n a0 a1 (fun a=>some true) n 0)
theorem AjE{g h:List AJ}{i:Bool}{j k:Value}(a:Zn n g h=some i)(A:H<=w.heap.size)(l:AS C_Target w H g j)(q:AS C_Target w H h k):
 Calls prog 19 [j,k].toArray w (An (.bool i) w):=by
 have m:=AH.refl w;unfold Zn at a;refine AA func19 z ntmps19 (Rc 9 (Yl z (CB z Gq (l.oj m)) (Ro 1 (Yl z (CB z Gq (q.oj m)) (Ro 3 (Wt a m ?_))))));intro a;refine Rc 9 (WC.loopD (fun c f wl=>∃d:Int,Kn 27 [(0,j),(1,k),(5,.i d)] f∧AH w wl∧Lj n g h (fun d=>(some true)) c d=some i) n ?_ ?_)
 ·intro f e;exact⟨0,e.sub z,AH.refl _,a⟩
 ·rintro c f B ⟨d,e,b,a⟩;refine Bp e ?_;rcases c with _|c;exact Bm a;rw [Lj.eq_2]at a;have C:=b.size;refine Rc 5 (Yl z (CB z Gq (l.oj b)) (Ro 3 (Wf a b ?_)));intro a;refine Rc 5 (Bh Tryz.hm (Qr 2 (Iq a (l.oj b) Gq Bz ?_)));rintro o D a _ ⟨E,F,G,rfl,I,s,t⟩;obtain rfl:=Ba s;refine Qy z (CQ (us:=[.i o.Node,.i o.Required.Early,.i o.Required.Late]) z Gc t Bz) (Qr 2 (Iq a (q.oj b) Gq Bz ?_));rintro p J a _ ⟨K,L,M,rfl,N,u,v⟩;obtain rfl:=Ba u;refine Qy z (CQ (us:=[.i p.Node,.i p.Required.Early,.i p.Required.Late]) z Gc v Bz) ?_;have⟨O,x,a⟩:=AG a;refine Ql z (IV z zJ fun w' hw'=>(AeC x:)) ?_;refine Qr 1 ?_;refine QL.done fun P r=>?_;have⟨y,Q⟩:=Et b r;refine Re 1 (Wt a y ?_);intro a;refine Rc 9 ?_;intro f e;exact⟨c,nr,(wrap .i64 (d+1)),e.sub z,(AH.trans b r),a⟩
def Je(k0:Int->Int->(List Int)->Option (Int×(List Int))):Nat->Int->Int->(List Int)->Option (Int×(List Int))
 |0,_,_,_=>none
 |m+1,c,a,b=>cond (decide (a<(b.length:Int))) ((AE b a).bind fun d=>Je k0 m (wrap .i64 (c+1)) (wrap .i64 (a+1)) ((b.set (a).toNat c))) (k0 c a b)
def Ze(n:Nat)(a0:List Int)(a1:Int):Option (Int×(List Int)):=Je (fun c b a=>some (c,a)) n a1 0 a0
theorem AfJ{k:List Int}{H:Int}{h:Int×(List Int)}{c:Value}{l:Nat}(a:Ze n k H=some h)(m:AB (AI .i64) w l (Iv 0 0) 2 k c):
 Calls prog 21 [c,.i H].toArray w (DM fun s o=>s= .i h.1∧AB (AI .i64) o l (Iv 0 0) 2 h.2 c∧Bl (pO c) w o):=by
 have t:Bl (pO c) w w:=Bl.refl _ w;have E:=AB.blk m;unfold Ze at a;refine AA func21 z ntmps21 (Rc 12 (WC.loopD (fun f i wl=>∃(b d:Int) (e:List Int),Kn 19 [(0,c),(1,.i b),(5,.i d)] i∧Bl (pO c) w wl∧w.heap.size<=wl.heap.size∧AB (AI .i64) wl (l) (Iv 0 0) 2 e c∧Je (fun b d e=>(some (b,e))) f b d e=some h) n ?_ ?_))
 ·intro i g;exact⟨H,0,k,g.sub z,t,nr,m,a⟩
 ·rintro f i F ⟨b,d,e,g,p,G,j,a⟩;refine Bp g ?_;rcases f with _|f;exact Bm a;rw [Je.eq_2]at a;refine Rc 5 (Yl z (KH z Ac j) (Ro 3 (Wc z a ?_ ?_)))
  ·intro a;refine Rc 9 (Io a j Ac Al ?_);rintro I u a _ ⟨J,K,rfl,q,r,v⟩;have x:=r;obtain rfl:=r;refine Ef z (Ae (c:=(AI .i64)) (us':=[.i b]) (y':=b) 0 _ z z z j q u z Al z x v z z z (fun y A=>absurd A.2 (Nat.not_lt_zero y))) ?_;rintro _ L ⟨B,C⟩;have⟨D,M⟩:=iK p B (Or.inl q);refine Ro 15 ?_;intro i g;exact⟨f,nr,(wrap .i64 (b+1)),(wrap .i64 (d+1)),((e.set (d).toNat b)),g.sub z,D,(by omega),C,a⟩
  ·intro a;cases BM a;exact Rc 12 (Ne z z ⟨_,z,z,j,p⟩)
def Mq(k0:Int->ByteArray->Option ByteArray):Nat->Int->ByteArray->Option ByteArray
 |0,_,_=>none
 |m+1,a,c=>cond (decide (a>0)) ((Uw ((gQ ([IntKind.wrap IntKind.u8 (wrap .i64 (48+(Int.tmod a 10)))]))) c).bind fun b=>Mq k0 m (wrap .i64 (Int.tdiv a 10)) b) (k0 a c)
def mR(n:Nat)(a0:Int):Option ByteArray:=cond (decide (a0<=0)) (some ((ByteArray.mk #[109,48]))) (Mq (fun c a=>(Uw ((ByteArray.mk #[109])) a).bind fun b=>some b) n a0 ((ByteArray.mk #[])))
theorem W_x{g:Int}{h:ByteArray}(a:mR n g=some h):
 Calls prog 154 [.i g].toArray w (An (.string h) w):=by
 have H:=AH.refl w;unfold mR at a;refine AA func154 z ntmps154 (Rc 12 (Wt a H ?_));intro a;have⟨l,m,a⟩:=KF a;refine Rc 9 (WC.loopD (fun c e wl=>∃(b:Int) (i:ByteArray),Kn 20 [(0,.i b),(3,.string i)] e∧AH w wl∧Mq l c b i=some h) n ?_ ?_)
 ·intro e d;exact⟨g,((ByteArray.mk #[])),d.sub z,AH.refl _,a⟩
 ·rintro c e s ⟨b,i,d,f,a⟩;refine Bp d ?_;rcases c with _|c;exact Bm a;rw [Mq.eq_2]at a;have t:=f.size;refine Rc 7 (Wc z a ?_ ?_)
  ·intro a;refine Rc 8 (Yl z (NN z ud3 ud5 z) (Ef z (BE (AI .u8) ([IntKind.wrap IntKind.u8 (wrap .i64 (48+(Int.tmod b 10)))]) [[.int .u8 (IntKind.wrap IntKind.u8 (wrap .i64 (48+(Int.tmod b 10))))]] z oE AhR z z ⟨z,trivial⟩) ?_));rintro u v ⟨x,j,y,A,k,o⟩;have⟨B,C⟩:=Et f k;have D:=BP j;clear j;refine Yl z (YK z oE ud5 SK z (AB.slf o nr nr)) (Ro 1 ?_);have⟨p,q,a⟩:=AG a;refine Yl z (WH z z z q) (Ro 10 ?_);intro e d;exact⟨c,nr,(wrap .i64 (Int.tdiv b 10)),p,d.sub z,(AH.trans f k),a⟩
  ·intro a;refine Rc 3 ?_
   subst m
   refine Re 5 ?_;have⟨E,r,a⟩:=AG a;exact Yl z (WH z z z r) (Db a f)
def JO(n:Nat)(a0:List BQ)(k0:Int->Int->Option Int):Nat->Int->Int->Option Int
 |0,_,_=>none
 |m+1,b,a=>cond (decide (a<(a0.length:Int))) ((mR n b).bind fun g=>(AE a0 a).bind fun d=>(AE a0 a).bind fun e=>(AE a0 a).bind fun c=>(AE a0 a).bind fun f=>JO n a0 k0 m (wrap .i64 ((wrap .i64 ((wrap .i64 ((wrap .i64 (b+1))+1))+1))+1)) (wrap .i64 (a+1))) (k0 b a)
def Zt(n:Nat)(a0:List BQ)(a1:Int):Option Int:=JO n a0 (fun a b=>some a) n a1 0
theorem AkU{e:List BQ}{k l:Int}{lo hi:Nat}{f:Value}(hF:Zt n e k=some l)(hlh:hi<=w.heap.size)(y:AD C_PinS w (Iv lo hi) e f):
 Calls prog 155 [f,.i k].toArray w (DM fun A B=>A= .i l∧Di (Iv lo hi) w B):=by
 have C:Di (Iv lo hi) w w:=Di.refl _ w;unfold Zt at hF;refine AA func155 z ntmps155 (Rc 12 (WC.loopD (fun c g wl=>∃b d:Int,Kn 44 [(0,f),(1,.i b),(5,.i d)] g∧Di (Iv lo hi) w wl∧w.heap.size<=wl.heap.size∧AD C_PinS wl (Iv lo hi) e f∧JO n e (fun b d=>(some b)) c b d=some l) n ?_ ?_))
 ·intro g hK;exact⟨k,0,hK.sub z,C,nr,y,hF⟩
 ·rintro c g W ⟨b,d,hK,m,X,a,hF⟩;refine Bp hK ?_;rcases c with _|c;exact Bm hF;rw [JO.eq_2]at hF;refine Rc 5 (Yl z (CB z Cy a) (Ro 3 (Wf hF m ?_)));intro hF;refine Rc 9 (Cg hF Ox (fun _ D=>(W_x D:)) ?_);rintro Y hF _ Z ⟨rfl,o⟩;have⟨E,a0⟩:=oP m o;have a:=a.old o (by omega);have⟨b0,F,hF⟩:=AG hF;refine Ye z (Ea z Cy CK a F) ?_;rintro _ ⟨p,c0,d0,rfl,h,G,I⟩;have h:lo<=p∧p<hi:=⟨h.1,by have:=h.2;omega⟩;obtain⟨e0,f0,g0,h0,rfl⟩:=Hj G;refine Yl z (BI z Gk) (Ef z (Ce 0 z I z z (.str _ _) HV z z) ?_);rintro _ i0 q;have⟨J,j0⟩:=JD E q (Ao (Or.inl h));have a:=AD.sim a q;have⟨k0,K,hF⟩:=AG hF;refine Ro 14 (Ye z (Ea z Cy CK a K) ?_);rintro _ ⟨r,l0,m0,rfl,i,L,M⟩;have i:lo<=r∧r<hi:=⟨i.1,by have:=i.2;omega⟩;obtain⟨n0,o0,p0,q0,rfl⟩:=Hj L;refine Yl z (BI z Gh) (Ef z (Ce 1 z M z z (.int _ _ _) Al z z) ?_);rintro _ r0 s;have⟨N,s0⟩:=JD J s (Ao (Or.inl i));have a:=AD.sim a s;have⟨t0,O,hF⟩:=AG hF;refine Ro 14 (Ye z (Ea z Cy CK a O) ?_);rintro _ ⟨t,u0,v0,rfl,H,P,Q⟩;have H:lo<=t∧t<hi:=⟨H.1,by have:=H.2;omega⟩;obtain⟨w0,x0,y0,z0,rfl⟩:=Hj P;refine Yl z (BI z FB) (Ef z (Ce 2 z Q z z (.int _ _ _) Al z z) ?_);rintro _ A0 u;have⟨R,B0⟩:=JD N u (Ao (Or.inl H));have a:=AD.sim a u;have⟨C0,S,hF⟩:=AG hF;refine Ro 16 (Ye z (Ea z Cy CK a S) ?_);rintro _ ⟨v,D0,E0,rfl,j,T,U⟩;have j:lo<=v∧v<hi:=⟨j.1,by have:=j.2;omega⟩;obtain⟨F0,G0,H0,I0,rfl⟩:=Hj T;refine Yl z (BI z DG) (Ef z (Ce 3 z U z z (.bool _ _) EH z z) ?_);rintro _ J0 x;have⟨V,K0⟩:=JD R x (Ao (Or.inl j));have a:=AD.sim a x;refine Ro 15 ?_;intro g hK;exact⟨c,nr,(wrap .i64 ((wrap .i64 ((wrap .i64 ((wrap .i64 (b+1))+1))+1))+1)),(wrap .i64 (d+1)),hK.sub z,V,(by omega),a,hF⟩
def Mm(a0:List Int)(k0:Int->Int->Option Int):Nat->Int->Int->Option Int
 |0,_,_=>none
 |m+1,b,a=>cond (decide (a<(a0.length:Int))) ((AE a0 a).bind fun c=>Mm a0 k0 m (wrap .i64 (b+1)) (wrap .i64 (a+1))) (k0 b a)
def XB(n:Nat)(a0:List Int)(a1:Int):Option Int:=Mm a0 (fun a b=>some a) n a1 0
theorem iW{g:List Int}{H k:Int}{lo hi:Nat}{h:Value}(a:XB n g H=some k)(hlh:hi<=w.heap.size)(p:AD (CV .i64) w (Iv lo hi) g h):
 Calls prog 21 [h,.i H].toArray w (DM fun q r=>q= .i k∧Di (Iv lo hi) w r):=by
 have s:Di (Iv lo hi) w w:=Di.refl _ w;unfold XB at a;refine AA func21 z ntmps21 (Rc 12 (WC.loopD (fun c i wl=>∃b d:Int,Kn 19 [(0,h),(1,.i b),(5,.i d)] i∧Di (Iv lo hi) w wl∧w.heap.size<=wl.heap.size∧AD (CV .i64) wl (Iv lo hi) g h∧Mm g (fun b d=>(some b)) c b d=some k) n ?_ ?_))
 ·intro i e;exact⟨H,0,e.sub z,s,nr,p,a⟩
 ·rintro c i x ⟨b,d,e,l,y,f,a⟩;refine Bp e ?_;rcases c with _|c;exact Bm a;rw [Mm.eq_2]at a;refine Rc 5 (Yl z (CB z Ac f) (Ro 3 (Wf a l ?_)));intro a;have⟨A,t,a⟩:=AG a;refine Rc 9 (Ye z (Ea z Ac Al f t) ?_);rintro _ ⟨m,B,_,rfl,j,⟨C,rfl⟩,u⟩;have j:lo<=m∧m<hi:=⟨j.1,by have:=j.2;omega⟩;refine Ef z (Ce 0 z u z z (.int _ _ _) Al z z) ?_;rintro _ D o;have⟨v,E⟩:=JD l o (Ao (Or.inl j));have f:=AD.sim f o;refine Ro 15 ?_;intro i e;exact⟨c,nr,(wrap .i64 (b+1)),(wrap .i64 (d+1)),e.sub z,v,(by omega),f,a⟩
def JW(n:Nat)(a0:List Ab)(k0:Int->Int->Option Int):Nat->Int->Int->Option Int
 |0,_,_=>none
 |m+1,g,a=>cond (decide (a<(a0.length:Int))) ((AE a0 a).bind fun h=>(XB n h.Slews g).bind fun c=>(AE a0 a).bind fun e=>(XB n e.Loads c).bind fun d=>(AE a0 a).bind fun b=>(XB n b.Values d).bind fun f=>JW n a0 k0 m f (wrap .i64 (a+1))) (k0 g a)
def XD(n:Nat)(a0:List Ab)(a1:Int):Option Int:=JW n a0 (fun a b=>some a) n a1 0
theorem zQ{f:List Ab}{i j:Int}{lo hi:Nat}{g:Value}(hF:XD n f i=some j)(hlh:hi<=w.heap.size)(p:AD C_TableS w (Iv lo hi) f g):
 Calls prog 195 [g,.i i].toArray w (DM fun q r=>q= .i j∧Di (Iv lo hi) w r):=by
 have s:Di (Iv lo hi) w w:=Di.refl _ w;unfold XD at hF;refine AA func195 z ntmps195 (Rc 12 (WC.loopD (fun b h wl=>∃c d:Int,Kn 34 [(0,g),(1,.i c),(5,.i d)] h∧Di (Iv lo hi) w wl∧w.heap.size<=wl.heap.size∧AD C_TableS wl (Iv lo hi) f g∧JW n f (fun c d=>(some c)) b c d=some j) n ?_ ?_))
 ·intro h hK;exact⟨i,0,hK.sub z,s,nr,p,hF⟩
 ·rintro b h P ⟨c,d,hK,H,Q,a,hF⟩;refine Bp hK ?_;rcases b with _|b;exact Bm hF;rw [JW.eq_2]at hF;refine Rc 5 (Yl z (CB z EY a) (Ro 3 (Wf hF H ?_)));intro hF;have⟨R,t,hF⟩:=AG hF;refine Rc 8 (Ye z (Ea z EY DI a t) ?_);rintro _ ⟨S,T,U,rfl,V,u,v⟩;obtain⟨W,X,Y,rfl,x,Z,a0⟩:=IK u;refine Fc FG Ah v (Ro 1 ?_);have⟨b0,y,hF⟩:=AG hF;refine Ef z (Dm z MJ (iW y (by omega) x:)) ?_;rintro _ c0 ⟨rfl,k⟩;have⟨A,d0⟩:=JD H k (fun l e=>Or.inl e);have a:=AD.sim a k;have⟨e0,B,hF⟩:=AG hF;refine Ro 7 (Ye z (Ea z EY DI a B) ?_);rintro _ ⟨f0,g0,h0,rfl,i0,C,D⟩;obtain⟨j0,k0,l0,rfl,m0,E,n0⟩:=IK C;refine Fc EW Ah D (Ro 1 ?_);have⟨o0,F,hF⟩:=AG hF;refine Ef z (Dm z MJ (iW F (by omega) E:)) ?_;rintro _ p0 ⟨rfl,m⟩;have⟨G,q0⟩:=JD A m (fun l e=>Or.inl e);have a:=AD.sim a m;have⟨r0,I,hF⟩:=AG hF;refine Ro 6 (Ye z (Ea z EY DI a I) ?_);rintro _ ⟨s0,t0,u0,rfl,v0,J,K⟩;obtain⟨w0,x0,y0,rfl,z0,A0,L⟩:=IK J;refine Fc CW Ah K (Ro 1 ?_);have⟨M,N,hF⟩:=AG hF;refine Ef z (Dm z MJ (iW N (by omega) L:)) ?_;rintro _ B0 ⟨rfl,o⟩;have⟨O,C0⟩:=JD G o (fun l e=>Or.inl e);have a:=AD.sim a o;refine Ro 10 ?_;intro h hK;exact⟨b,nr,M,(wrap .i64 (d+1)),hK.sub z,O,(by omega),a,hF⟩
def Jn(n:Nat)(a0:List Aq)(k0:Int->Int->Option Int):Nat->Int->Int->Option Int
 |0,_,_=>none
 |m+1,f,a=>cond (decide (a<(a0.length:Int))) ((AE a0 a).bind fun j=>(AE a0 a).bind fun i=>(AE a0 a).bind fun g=>(AE a0 a).bind fun h=>(AE a0 a).bind fun e=>(XD n e.Delay (wrap .i64 ((wrap .i64 ((wrap .i64 ((wrap .i64 (f+1))+1))+1))+1))).bind fun d=>(AE a0 a).bind fun b=>(XD n b.Slew d).bind fun c=>Jn n a0 k0 m c (wrap .i64 (a+1))) (k0 f a)
def Zi(n:Nat)(a0:List Aq)(a1:Int):Option Int:=Jn n a0 (fun a b=>some a) n a1 0
theorem AjN{e:List Aq}{k l:Int}{lo hi:Nat}{f:Value}(hF:Zi n e k=some l)(hlh:hi<=w.heap.size)(B:AD C_ArcS w (Iv lo hi) e f):
 Calls prog 156 [f,.i k].toArray w (DM fun C D=>C= .i l∧Di (Iv lo hi) w D):=by
 have E:Di (Iv lo hi) w w:=Di.refl _ w;unfold Zi at hF;refine AA func156 z ntmps156 (Rc 12 (WC.loopD (fun b g wl=>∃c d:Int,Kn 55 [(0,f),(1,.i c),(5,.i d)] g∧Di (Iv lo hi) w wl∧w.heap.size<=wl.heap.size∧AD C_ArcS wl (Iv lo hi) e f∧Jn n e (fun c d=>(some c)) b c d=some l) n ?_ ?_))
 ·intro g hK;exact⟨k,0,hK.sub z,E,nr,B,hF⟩
 ·rintro b g k0 ⟨c,d,hK,o,l0,a,hF⟩;refine Bp hK ?_;rcases b with _|b;exact Bm hF;rw [Jn.eq_2]at hF;refine Rc 5 (Yl z (CB z Ch a) (Ro 3 (Wf hF o ?_)));intro hF;have⟨m0,F,hF⟩:=AG hF;refine Rc 9 (Ye z (Ea z Ch BU a F) ?_);rintro _ ⟨p,n0,o0,rfl,h,G,I⟩;have h:lo<=p∧p<hi:=⟨h.1,by have:=h.2;omega⟩;obtain⟨p0,q0,r0,s0,t0,u0,rfl,v0,w0⟩:=FQ G;refine Yl z (BI z Cz) (Ef z (Ce 0 z I z z (.int _ _ _) Al z z) ?_);rintro _ x0 q;have⟨J,y0⟩:=JD o q (Ao (Or.inl h));have a:=AD.sim a q;have⟨z0,K,hF⟩:=AG hF;refine Ro 14 (Ye z (Ea z Ch BU a K) ?_);rintro _ ⟨r,A0,B0,rfl,i,L,M⟩;have i:lo<=r∧r<hi:=⟨i.1,by have:=i.2;omega⟩;obtain⟨C0,D0,E0,F0,G0,H0,rfl,I0,J0⟩:=FQ L;refine Yl z (BI z Cd) (Ef z (Ce 1 z M z z (.int _ _ _) Al z z) ?_);rintro _ K0 s;have⟨N,L0⟩:=JD J s (Ao (Or.inl i));have a:=AD.sim a s;have⟨M0,O,hF⟩:=AG hF;refine Ro 14 (Ye z (Ea z Ch BU a O) ?_);rintro _ ⟨t,N0,O0,rfl,H,P,Q⟩;have H:lo<=t∧t<hi:=⟨H.1,by have:=H.2;omega⟩;obtain⟨P0,Q0,R0,S0,T0,U0,rfl,V0,W0⟩:=FQ P;refine Yl z (BI z By) (Ef z (Ce 2 z Q z z (.int _ _ _) Al z z) ?_);rintro _ X0 u;have⟨R,Y0⟩:=JD N u (Ao (Or.inl H));have a:=AD.sim a u;have⟨Z0,S,hF⟩:=AG hF;refine Ro 14 (Ye z (Ea z Ch BU a S) ?_);rintro _ ⟨v,a1,b1,rfl,j,T,U⟩;have j:lo<=v∧v<hi:=⟨j.1,by have:=j.2;omega⟩;obtain⟨c1,d1,e1,f1,g1,h1,rfl,i1,j1⟩:=FQ T;refine Yl z (BI z Cc) (Ef z (Ce 3 z U z z (.int _ _ _) Al z z) ?_);rintro _ k1 x;have⟨V,l1⟩:=JD R x (Ao (Or.inl j));have a:=AD.sim a x;have⟨m1,W,hF⟩:=AG hF;refine Ro 13 (Ye z (Ea z Ch BU a W) ?_);rintro _ ⟨n1,o1,p1,rfl,q1,X,Y⟩;obtain⟨r1,s1,t1,u1,v1,w1,rfl,Z,x1⟩:=FQ X;refine Fc Dq Cw Y (Ro 1 ?_);have⟨y1,a0,hF⟩:=AG hF;refine Ef z (Dm z eC (zQ a0 (by omega) Z:)) ?_;rintro _ z1 ⟨rfl,y⟩;have⟨b0,A1⟩:=JD V y (fun c0 m=>Or.inl m);have a:=AD.sim a y;have⟨B1,d0,hF⟩:=AG hF;refine Ro 6 (Ye z (Ea z Ch BU a d0) ?_);rintro _ ⟨C1,D1,E1,rfl,F1,e0,f0⟩;obtain⟨G1,H1,I1,J1,K1,L1,rfl,M1,g0⟩:=FQ e0;refine Fc Dp Cw f0 (Ro 1 ?_);have⟨h0,i0,hF⟩:=AG hF;refine Ef z (Dm z eC (zQ i0 (by omega) g0:)) ?_;rintro _ N1 ⟨rfl,A⟩;have⟨j0,O1⟩:=JD b0 A (fun c0 m=>Or.inl m);have a:=AD.sim a A;refine Ro 10 ?_;intro g hK;exact⟨b,nr,h0,(wrap .i64 (d+1)),hK.sub z,j0,(by omega),a,hF⟩
def Jk(n:Nat)(a0:List Af)(k0:Int->Int->Option Int):Nat->Int->Int->Option Int
 |0,_,_=>none
 |m+1,f,a=>cond (decide (a<(a0.length:Int))) ((mR n f).bind fun o=>(AE a0 a).bind fun k=>(AE a0 a).bind fun l=>(AE a0 a).bind fun g=>(Zt n g.Pins (wrap .i64 ((wrap .i64 (f+1))+1))).bind fun e=>(AE a0 a).bind fun h=>(Zi n h.Arcs e).bind fun d=>(AE a0 a).bind fun b=>(XB n b.Truth d).bind fun c=>(AE a0 a).bind fun i=>(AE a0 a).bind fun j=>Jk n a0 k0 m (wrap .i64 ((wrap .i64 (c+1))+1)) (wrap .i64 (a+1))) (k0 f a)
def bV(n:Nat)(a0:List Af)(a1:Int):Option Int:=Jk n a0 (fun a b=>some a) n a1 0
theorem AfC{f:List Af}{l m:Int}{lo hi:Nat}{g:Value}(hF:bV n f l=some m)(hlh:hi<=w.heap.size)(E:AD C_CellS w (Iv lo hi) f g):
 Calls prog 103 [g,.i l].toArray w (DM fun F G=>F= .i m∧Di (Iv lo hi) w G):=by
 have I:Di (Iv lo hi) w w:=Di.refl _ w;unfold bV at hF;refine AA func103 z ntmps103 (Rc 12 (WC.loopD (fun c h wl=>∃d e:Int,Kn 63 [(0,g),(1,.i d),(5,.i e)] h∧Di (Iv lo hi) w wl∧w.heap.size<=wl.heap.size∧AD C_CellS wl (Iv lo hi) f g∧Jk n f (fun d e=>(some d)) c d e=some m) n ?_ ?_))
 ·intro h hK;exact⟨l,0,hK.sub z,I,nr,E,hF⟩
 ·rintro c h t0 ⟨d,e,hK,o,u0,a,hF⟩;refine Bp hK ?_;rcases c with _|c;exact Bm hF;rw [Jk.eq_2]at hF;refine Rc 5 (Yl z (CB z Ex a) (Ro 3 (Wf hF o ?_)));intro hF;refine Rc 9 (Cg hF Ox (fun _ b=>(W_x b:)) ?_);rintro v0 hF _ w0 ⟨rfl,p⟩;have⟨J,x0⟩:=oP o p;have a:=a.old p (by omega);have⟨y0,K,hF⟩:=AG hF;refine Ye z (Ea z Ex BW a K) ?_;rintro _ ⟨q,z0,A0,rfl,H,L,M⟩;have H:lo<=q∧q<hi:=⟨H.1,by have:=H.2;omega⟩;obtain⟨B0,C0,D0,E0,F0,G0,H0,rfl,I0,J0,K0⟩:=EO L;refine Yl z (BI z Fb) (Ef z (Ce 0 z M z z (.str _ _) HV z z) ?_);rintro _ L0 r;have⟨N,M0⟩:=JD J r (Ao (Or.inl H));have a:=AD.sim a r;have⟨N0,O,hF⟩:=AG hF;refine Ro 14 (Ye z (Ea z Ex BW a O) ?_);rintro _ ⟨s,O0,P0,rfl,i,P,Q⟩;have i:lo<=s∧s<hi:=⟨i.1,by have:=i.2;omega⟩;obtain⟨Q0,R0,S0,T0,U0,V0,W0,rfl,X0,Y0,Z0⟩:=EO P;refine Yl z (BI z In) (Ef z (Ce 1 z Q z z (.int _ _ _) Al z z) ?_);rintro _ a1 t;have⟨R,b1⟩:=JD N t (Ao (Or.inl i));have a:=AD.sim a t;have⟨c1,S,hF⟩:=AG hF;refine Ro 13 (Ye z (Ea z Ex BW a S) ?_);rintro _ ⟨d1,e1,f1,rfl,g1,T,U⟩;obtain⟨h1,i1,j1,k1,l1,m1,n1,rfl,V,o1,p1⟩:=EO T;refine Fc Bu DZ U (Ro 1 ?_);have⟨q1,W,hF⟩:=AG hF;refine Ef z (Dm z tW (AkU W (by omega) V:)) ?_;rintro _ r1 ⟨rfl,u⟩;have⟨X,s1⟩:=JD R u (fun v b=>Or.inl b);have a:=AD.sim a u;have⟨t1,Y,hF⟩:=AG hF;refine Ro 7 (Ye z (Ea z Ex BW a Y) ?_);rintro _ ⟨u1,v1,w1,rfl,x1,Z,a0⟩;obtain⟨y1,z1,A1,B1,C1,D1,E1,rfl,F1,b0,G1⟩:=EO Z;refine Fc CX EQ a0 (Ro 1 ?_);have⟨H1,c0,hF⟩:=AG hF;refine Ef z (Dm z tM (AjN c0 (by omega) b0:)) ?_;rintro _ I1 ⟨rfl,x⟩;have⟨d0,J1⟩:=JD X x (fun v b=>Or.inl b);have a:=AD.sim a x;have⟨K1,e0,hF⟩:=AG hF;refine Ro 7 (Ye z (Ea z Ex BW a e0) ?_);rintro _ ⟨L1,M1,N1,rfl,O1,f0,g0⟩;obtain⟨P1,Q1,R1,S1,T1,U1,V1,rfl,W1,X1,h0⟩:=EO f0;refine Fc EC Ah g0 (Ro 1 ?_);have⟨i0,j0,hF⟩:=AG hF;refine Ef z (Dm z MJ (iW j0 (by omega) h0:)) ?_;rintro _ Y1 ⟨rfl,y⟩;have⟨k0,Z1⟩:=JD d0 y (fun v b=>Or.inl b);have a:=AD.sim a y;have⟨a2,l0,hF⟩:=AG hF;refine Ro 8 (Ye z (Ea z Ex BW a l0) ?_);rintro _ ⟨A,b2,c2,rfl,j,m0,n0⟩;have j:lo<=A∧A<hi:=⟨j.1,by have:=j.2;omega⟩;obtain⟨d2,e2,f2,g2,h2,i2,j2,rfl,k2,l2,m2⟩:=EO m0;refine Yl z (BI z Ia) (Ef z (Ce 5 z n0 z z (.int _ _ _) Al z z) ?_);rintro _ n2 B;have⟨o0,o2⟩:=JD k0 B (Ao (Or.inl j));have a:=AD.sim a B;have⟨p2,p0,hF⟩:=AG hF;refine Ro 14 (Ye z (Ea z Ex BW a p0) ?_);rintro _ ⟨C,q2,r2,rfl,k,q0,r0⟩;have k:lo<=C∧C<hi:=⟨k.1,by have:=k.2;omega⟩;obtain⟨s2,t2,u2,v2,w2,x2,y2,rfl,z2,A2,B2⟩:=EO q0;refine Yl z (BI z Ie) (Ef z (Ce 6 z r0 z z (.int _ _ _) Al z z) ?_);rintro _ C2 D;have⟨s0,D2⟩:=JD o0 D (Ao (Or.inl k));have a:=AD.sim a D;refine Ro 15 ?_;intro h hK;exact⟨c,nr,(wrap .i64 ((wrap .i64 (i0+1))+1)),(wrap .i64 (e+1)),hK.sub z,s0,(by omega),a,hF⟩
def Iz(n:Nat)(a0:List AX)(k0:Int->Int->Option Int):Nat->Int->Int->Option Int
 |0,_,_=>none
 |m+1,c,a=>cond (decide (a<(a0.length:Int))) ((mR n c).bind fun g=>(AE a0 a).bind fun e=>(AE a0 a).bind fun f=>(AE a0 a).bind fun b=>(XB n b.Nets (wrap .i64 ((wrap .i64 (c+1))+1))).bind fun d=>Iz n a0 k0 m d (wrap .i64 (a+1))) (k0 c a)
def cW(n:Nat)(a0:List AX)(a1:Int):Option Int:=Iz n a0 (fun a b=>some a) n a1 0
theorem AjF{e:List AX}{i j:Int}{lo hi:Nat}{H:Value}(hF:cW n e i=some j)(hlh:hi<=w.heap.size)(t:AD C_InstanceS w (Iv lo hi) e H):
 Calls prog 104 [H,.i i].toArray w (DM fun u v=>u= .i j∧Di (Iv lo hi) w v):=by
 have x:Di (Iv lo hi) w w:=Di.refl _ w;unfold cW at hF;refine AA func104 z ntmps104 (Rc 12 (WC.loopD (fun b f wl=>∃c d:Int,Kn 35 [(0,H),(1,.i c),(5,.i d)] f∧Di (Iv lo hi) w wl∧w.heap.size<=wl.heap.size∧AD C_InstanceS wl (Iv lo hi) e H∧Iz n e (fun c d=>(some c)) b c d=some j) n ?_ ?_))
 ·intro f hK;exact⟨i,0,hK.sub z,x,nr,t,hF⟩
 ·rintro b f Q ⟨c,d,hK,l,R,a,hF⟩;refine Bp hK ?_;rcases b with _|b;exact Bm hF;rw [Iz.eq_2]at hF;refine Rc 5 (Yl z (CB z Ev a) (Ro 3 (Wf hF l ?_)));intro hF;refine Rc 9 (Cg hF Ox (fun _ k=>(W_x k:)) ?_);rintro S hF _ T ⟨rfl,m⟩;have⟨y,U⟩:=oP l m;have a:=a.old m (by omega);have⟨V,A,hF⟩:=AG hF;refine Ye z (Ea z Ev Br a A) ?_;rintro _ ⟨o,W,X,rfl,g,B,C⟩;have g:lo<=o∧o<hi:=⟨g.1,by have:=g.2;omega⟩;obtain⟨Y,Z,a0,rfl,b0⟩:=GG B;refine Yl z (BI z IS) (Ef z (Ce 0 z C z z (.str _ _) HV z z) ?_);rintro _ c0 p;have⟨D,d0⟩:=JD y p (Ao (Or.inl g));have a:=AD.sim a p;have⟨e0,E,hF⟩:=AG hF;refine Ro 14 (Ye z (Ea z Ev Br a E) ?_);rintro _ ⟨q,f0,g0,rfl,h,F,G⟩;have h:lo<=q∧q<hi:=⟨h.1,by have:=h.2;omega⟩;obtain⟨h0,i0,j0,rfl,k0⟩:=GG F;refine Yl z (BI z Ds) (Ef z (Ce 1 z G z z (.int _ _ _) Al z z) ?_);rintro _ l0 r;have⟨I,m0⟩:=JD D r (Ao (Or.inl h));have a:=AD.sim a r;have⟨n0,J,hF⟩:=AG hF;refine Ro 12 (Ye z (Ea z Ev Br a J) ?_);rintro _ ⟨o0,p0,q0,rfl,r0,K,L⟩;obtain⟨s0,t0,u0,rfl,M⟩:=GG K;refine Fc DU Ah L (Ro 1 ?_);have⟨N,O,hF⟩:=AG hF;refine Ef z (Dm z MJ (iW O (by omega) M:)) ?_;rintro _ v0 ⟨rfl,s⟩;have⟨P,w0⟩:=JD I s (fun x0 k=>Or.inl k);have a:=AD.sim a s;refine Ro 10 ?_;intro f hK;exact⟨b,nr,N,(wrap .i64 (d+1)),hK.sub z,P,(by omega),a,hF⟩
def Yf(n:Nat)(a0:Ad)(a1:Int):Option Int:=(bV n a0.Cells a1).bind fun a=>some a
theorem AdN{c:Ad}{d e:Int}{lo hi:Nat}{f:Value}(b:Yf n c d=some e)(hlh:hi<=w.heap.size)(a:AD C_CellS w (Iv lo hi) c.Cells f):
 Calls prog 51 [.agg #[f],.i d].toArray w (DM fun i j=>i= .i e∧Di (Iv lo hi) w j):=by
 have k:Di (Iv lo hi) w w:=Di.refl _ w;unfold Yf at b;refine AA func51 z ntmps51 (Rc 2 (Ef z (AF z z) ?_));rintro _ r ⟨H,rfl,s,t,g,l⟩;have⟨m,u⟩:=oP k g;have a:=a.old g (by omega);refine Ro 5 (Fl DD FS l (Ro 1 ?_));have⟨v,o,b⟩:=AG b;refine Ef z (Dm z vF (AfC o (by omega) a:)) ?_;rintro _ x ⟨rfl,h⟩;have⟨p,y⟩:=JD m h (fun A q=>Or.inl q);have a:=AD.sim a h;exact Db b p
def Jp(k0:Int->Int->(List Bool)->Option (Int×(List Bool))):Nat->Int->Int->(List Bool)->Option (Int×(List Bool))
 |0,_,_,_=>none
 |m+1,c,a,b=>cond (decide (a<(b.length:Int))) ((AE b a).bind fun d=>Jp k0 m (wrap .i64 (c+1)) (wrap .i64 (a+1)) ((b.set (a).toNat (((Int.tmod c 3)==0))))) (k0 c a b)
def Xp(n:Nat)(a0:List Bool)(a1:Int):Option (Int×(List Bool)):=Jp (fun c b a=>some (c,a)) n a1 0 a0
theorem AaZ{k:List Bool}{H:Int}{h:Int×(List Bool)}{c:Value}{l:Nat}(a:Xp n k H=some h)(m:AB Am w l (Iv 0 0) 4 k c):
 Calls prog 54 [c,.i H].toArray w (DM fun s o=>s= .i h.1∧AB Am o l (Iv 0 0) 4 h.2 c∧Bl (pO c) w o):=by
 have t:Bl (pO c) w w:=Bl.refl _ w;have E:=AB.blk m;unfold Xp at a;refine AA func54 z ntmps54 (Rc 12 (WC.loopD (fun f i wl=>∃(b d:Int) (e:List Bool),Kn 21 [(0,c),(1,.i b),(5,.i d)] i∧Bl (pO c) w wl∧w.heap.size<=wl.heap.size∧AB Am wl (l) (Iv 0 0) 4 e c∧Jp (fun b d e=>(some (b,e))) f b d e=some h) n ?_ ?_))
 ·intro i g;exact⟨H,0,k,g.sub z,t,nr,m,a⟩
 ·rintro f i F ⟨b,d,e,g,p,G,j,a⟩;refine Bp g ?_;rcases f with _|f;exact Bm a;rw [Jp.eq_2]at a;refine Rc 5 (Yl z (KH z Da j) (Ro 3 (Wc z a ?_ ?_)))
  ·intro a;refine Rc 11 (Io a j Da EH ?_);rintro I u a _ ⟨J,K,rfl,q,r,v⟩;have x:=r;obtain rfl:=r;refine Ef z (Ae (c:=Am) (us':=[.bool (((Int.tmod b 3)==0))]) (y':=((Int.tmod b 3)==0)) 0 _ z z z j q u z EH z x v z z z (fun y A=>absurd A.2 (Nat.not_lt_zero y))) ?_;rintro _ L ⟨B,C⟩;have⟨D,M⟩:=iK p B (Or.inl q);refine Ro 15 ?_;intro i g;exact⟨f,nr,(wrap .i64 (b+1)),(wrap .i64 (d+1)),((e.set (d).toNat (((Int.tmod b 3)==0)))),g.sub z,D,(by omega),C,a⟩
  ·intro a;cases BM a;exact Rc 12 (Ne z z ⟨_,z,z,j,p⟩)
def Is(k0:Int->Int->(List AO)->Option (Int×(List AO))):Nat->Int->Int->(List AO)->Option (Int×(List AO))
 |0,_,_,_=>none
 |m+1,c,a,b=>cond (decide (a<(b.length:Int))) ((AE b a).bind fun d=>(AE ((b.set (a).toNat ((AO.mk c d.Late)))) a).bind fun e=>Is k0 m (wrap .i64 ((wrap .i64 (c+1))+1)) (wrap .i64 (a+1)) ((((b.set (a).toNat ((AO.mk c d.Late)))).set (a).toNat ((AO.mk e.Early (wrap .i64 (c+1))))))) (k0 c a b)
def Vg(n:Nat)(a0:List AO)(a1:Int):Option (Int×(List AO)):=Is (fun c b a=>some (c,a)) n a1 0 a0
theorem sC{k:List AO}{H:Int}{h:Int×(List AO)}{c:Value}{l:Nat}(a:Vg n k H=some h)(r:AB C_Span w l (Iv 0 0) 92 k c):
 Calls prog 55 [c,.i H].toArray w (DM fun B s=>B= .i h.1∧AB C_Span s l (Iv 0 0) 92 h.2 c∧Bl (pO c) w s):=by
 have C:Bl (pO c) w w:=Bl.refl _ w;have P:=AB.blk r;unfold Vg at a;refine AA func55 z ntmps55 (Rc 12 (WC.loopD (fun f i wl=>∃(b d:Int) (e:List AO),Kn 27 [(0,c),(1,.i b),(5,.i d)] i∧Bl (pO c) w wl∧w.heap.size<=wl.heap.size∧AB C_Span wl (l) (Iv 0 0) 92 e c∧Is (fun b d e=>(some (b,e))) f b d e=some h) n ?_ ?_))
 ·intro i g;exact⟨H,0,k,g.sub z,C,nr,r,a⟩
 ·rintro f i Q ⟨b,d,e,g,t,R,j,a⟩;refine Bp g ?_;rcases f with _|f;exact Bm a;rw [Is.eq_2]at a;refine Rc 5 (Yl z (KH z Ec j) (Ro 3 (Wc z a ?_ ?_)))
  ·intro a;refine Rc 9 (Io a j Ec Ax ?_);rintro m D a _ ⟨S,T,rfl,u,v,E⟩;have F:=v;obtain rfl:=BH v;refine Yl z (BI z Bb) ?_;refine Ef z (Ae (c:=C_Span) (us':=[.i b,.i m.Late]) (y':=(AO.mk b m.Late)) 0 _ z z z j u D z Al z F E z z FR (fun o p=>absurd p.2 (Nat.not_lt_zero o))) ?_;rintro _ U ⟨G,x⟩;have⟨I,V⟩:=iK t G (Or.inl u);refine Ro 14 (Io a x Ec Ax ?_);rintro q J a _ ⟨W,X,rfl,y,A,K⟩;have L:=A;obtain rfl:=BH A;refine Yl z (BI z Be) ?_;refine Ef z (Ae (c:=C_Span) (us':=[.i q.Early,.i (wrap .i64 (b+1))]) (y':=(AO.mk q.Early (wrap .i64 (b+1)))) 1 _ z z z x y J z Al z L K z z FR (fun o p=>absurd p.2 (Nat.not_lt_zero o))) ?_;rintro _ Y ⟨M,N⟩;have⟨O,Z⟩:=iK I M (Or.inl y);refine Ro 15 ?_;intro i g;exact⟨f,nr,(wrap .i64 ((wrap .i64 (b+1))+1)),(wrap .i64 (d+1)),((((e.set (d).toNat ((AO.mk b m.Late)))).set (d).toNat ((AO.mk q.Early (wrap .i64 (b+1)))))),g.sub z,O,(by omega),N,a⟩
  ·intro a;cases BM a;exact Rc 12 (Ne z z ⟨_,z,z,j,t⟩)
def fY(n:Nat)(a0:Ap)(a1:Int):Option (Int×(List Bool)×(List AO)×(List AO)):=(Xp n a0.Reached a1).bind fun b=>(Vg n a0.Arrival b.1).bind fun c=>(Vg n a0.Slew c.1).bind fun a=>some (a.1,b.2,c.2,a.2)
theorem AhI{m:Ap}{s:Int}{i:Int×(List Bool)×(List AO)×(List AO)}{a:Value}{t:Nat}{b:Value}{u:Nat}{c:Value}{v:Nat}(hF:fY n m s=some i)(o:AB Am w t (Iv 0 0) 4 m.Reached a)(h:AB C_Span w u (Iv 0 0) 92 m.Arrival b)(f:AB C_Span w v (Iv 0 0) 92 m.Slew c)(x:No b a)(y:No c a)(A:No c b):
 Calls prog 22 [.agg #[a,b,c],.i s].toArray w (DM fun C p=>C= .i i.1∧AB Am p t (Iv 0 0) 4 i.2.1 a∧AB C_Span p u (Iv 0 0) 92 i.2.2.1 b∧AB C_Span p v (Iv 0 0) 92 i.2.2.2 c∧Bl (SI (pO a) (SI (pO b) (pO c))) w p):=by
 have D:Bl (SI (pO a) (SI (pO b) (pO c))) w w:=Bl.refl _ w;have E:=AB.blk o;have F:=AB.blk h;have V:=AB.blk f;unfold fY at hF;refine AA func22 z ntmps22 (Rc 2 (Ef z (AF z z) ?_));rintro _ W ⟨X,rfl,Y,Z,B,g⟩;have⟨G,a0⟩:=wJ D B;have⟨o,h,f⟩:=DR o h f B;refine Ro 5 (Fl Fh EI g (Ro 1 ?_));refine Cg hF oQ (fun _ j=>(AaZ j o:)) ?_;rintro b0 hF _ I ⟨rfl,k,H⟩;have J:Bl (SI (pO a) (SI (pO b) (pO c))) w I:=Bl.but G H (Ai (fun d hg=>(Or.inl (Or.inl hg))));have g:=Aj.but g H (Ai (Nb.of E));have K:No a b:=(No.symm x);have h:=AB.butF h H (Ai (fun d hg e hq=>K d e hg hq));have L:No a c:=(No.symm y);have f:=AB.butF f H (Ai (fun d hg e hq=>L d e hg hq));have c0:=(H).size;refine Ro 5 (Fl GS DS g (Ro 1 ?_));refine Cg hF dM (fun _ j=>(sC j h:)) ?_;rintro d0 hF _ M ⟨rfl,r,l⟩;have N:Bl (SI (pO a) (SI (pO b) (pO c))) w M:=Bl.but J l (Ai (fun d hg=>(Or.inl (Or.inr (Or.inl hg)))));have g:=Aj.but g l (Ai (Nb.of F));have O:No b a:=x;have k:=AB.butF k l (Ai (fun d hg e hq=>O d e hg hq));have P:No b c:=(No.symm A);have f:=AB.butF f l (Ai (fun d hg e hq=>P d e hg hq));have e0:=(l).size;refine Ro 5 (Fl Er DS g (Ro 1 ?_));refine Cg hF dM (fun _ j=>(sC j f:)) ?_;rintro f0 hF _ Q ⟨rfl,R,q⟩;have S:Bl (SI (pO a) (SI (pO b) (pO c))) w Q:=Bl.but N q (Ai (fun d hg=>(Or.inl (Or.inr (Or.inr hg)))));have T:No c a:=y;have k:=AB.butF k q (Ai (fun d hg e hq=>T d e hg hq));have U:No c b:=A;have r:=AB.butF r q (Ai (fun d hg e hq=>U d e hg hq));have g0:=(q).size;cases BM hF;exact Ro 10 (Ne z z ⟨_,z,z,k,r,R,S⟩)
def Jg(k0:Int->Int->(List AJ)->Option (Int×(List AJ))):Nat->Int->Int->(List AJ)->Option (Int×(List AJ))
 |0,_,_,_=>none
 |m+1,d,a,b=>cond (decide (a<(b.length:Int))) ((AE b a).bind fun e=>(AE ((b.set (a).toNat ((AJ.mk d e.Required)))) a).bind fun c=>(AE ((((b.set (a).toNat ((AJ.mk d e.Required)))).set (a).toNat ((AJ.mk c.Node ((AO.mk (wrap .i64 (d+1)) c.Required.Late)))))) a).bind fun f=>Jg k0 m (wrap .i64 ((wrap .i64 ((wrap .i64 (d+1))+1))+1)) (wrap .i64 (a+1)) ((((((b.set (a).toNat ((AJ.mk d e.Required)))).set (a).toNat ((AJ.mk c.Node ((AO.mk (wrap .i64 (d+1)) c.Required.Late)))))).set (a).toNat ((AJ.mk f.Node ((AO.mk f.Required.Early (wrap .i64 ((wrap .i64 (d+1))+1))))))))) (k0 d a b)
def eZ(n:Nat)(a0:List AJ)(a1:Int):Option (Int×(List AJ)):=Jg (fun c b a=>some (c,a)) n a1 0 a0
theorem AgA{m:List AJ}{o:Int}{j:Int×(List AJ)}{b:Value}{p:Nat}(hF:eZ n m o=some j)(q:AB C_Target w p (Iv 0 0) 94 m b):
 Calls prog 23 [b,.i o].toArray w (DM fun D r=>D= .i j.1∧AB C_Target r p (Iv 0 0) 94 j.2 b∧Bl (pO b) w r):=by
 have E:Bl (pO b) w w:=Bl.refl _ w;have W:=AB.blk q;unfold eZ at hF;refine AA func23 z ntmps23 (Rc 12 (WC.loopD (fun g k wl=>∃(a c:Int) (d:List AJ),Kn 36 [(0,b),(1,.i a),(5,.i c)] k∧Bl (pO b) w wl∧w.heap.size<=wl.heap.size∧AB C_Target wl (p) (Iv 0 0) 94 d b∧Jg (fun a c d=>(some (a,d))) g a c d=some j) n ?_ ?_))
 ·intro k hK;exact⟨o,0,m,hK.sub z,E,nr,q,hF⟩
 ·rintro g k X ⟨a,c,d,hK,s,Y,H,hF⟩;refine Bp hK ?_;rcases g with _|g;exact Bm hF;rw [Jg.eq_2]at hF;refine Rc 5 (Yl z (KH z Gq H) (Ro 3 (Wc z hF ?_ ?_)))
  ·intro hF;refine Rc 9 (Io hF H Gq Bz ?_);rintro l F hF _ ⟨Z,a0,rfl,t,u,G⟩;have I:=u;obtain rfl:=Ba u;refine Yl z (BI z FK) ?_;refine Ef z (Ae (c:=C_Target) (us':=[.i a,.i l.Required.Early,.i l.Required.Late]) (y':=(AJ.mk a l.Required)) 0 _ z z z H t F z Al z I G z z Gj (fun h i=>absurd i.2 (Nat.not_lt_zero h))) ?_;rintro _ b0 ⟨J,v⟩;have⟨K,c0⟩:=iK s J (Or.inl t);refine Ro 14 (Io hF v Gq Bz ?_);rintro e L hF _ ⟨d0,e0,rfl,x,y,M⟩;have N:=y;obtain rfl:=Ba y;refine Yl z (BI z Dh) (Yl z (BI z Bb) ?_);refine Ef z (Ae (c:=C_Target) (us':=[.i e.Node,.i (wrap .i64 (a+1)),.i e.Required.Late]) (y':=(AJ.mk e.Node ((AO.mk (wrap .i64 (a+1)) e.Required.Late)))) 1 _ z z z v x L z Al z N M z z Gj (fun h i=>absurd i.2 (Nat.not_lt_zero h))) ?_;rintro _ f0 ⟨O,A⟩;have⟨P,g0⟩:=iK K O (Or.inl x);refine Ro 14 (Io hF A Gq Bz ?_);rintro f Q hF _ ⟨h0,i0,rfl,B,C,R⟩;have S:=C;obtain rfl:=Ba C;refine Yl z (BI z Dh) (Yl z (BI z Be) ?_);refine Ef z (Ae (c:=C_Target) (us':=[.i f.Node,.i f.Required.Early,.i (wrap .i64 ((wrap .i64 (a+1))+1))]) (y':=(AJ.mk f.Node ((AO.mk f.Required.Early (wrap .i64 ((wrap .i64 (a+1))+1)))))) 2 _ z z z A B Q z Al z S R z z Gj (fun h i=>absurd i.2 (Nat.not_lt_zero h))) ?_;rintro _ j0 ⟨T,U⟩;have⟨V,k0⟩:=iK P T (Or.inl B);refine Ro 15 ?_;intro k hK;exact⟨g,nr,(wrap .i64 ((wrap .i64 ((wrap .i64 (a+1))+1))+1)),(wrap .i64 (c+1)),((((((d.set (c).toNat ((AJ.mk a l.Required)))).set (c).toNat ((AJ.mk e.Node ((AO.mk (wrap .i64 (a+1)) e.Required.Late)))))).set (c).toNat ((AJ.mk f.Node ((AO.mk f.Required.Early (wrap .i64 ((wrap .i64 (a+1))+1)))))))),hK.sub z,V,(by omega),U,hF⟩
  ·intro hF;cases BM hF;exact Rc 12 (Ne z z ⟨_,z,z,H,s⟩)
def fR(n:Nat)(a0:BL)(a1:Int):Option (Int×(List Bool)×(List AO)):=(Xp n a0.Bound a1).bind fun a=>(Vg n a0.Required a.1).bind fun b=>some (b.1,a.2,b.2)
theorem AkI{j:BL}{q:Int}{f:Int×(List Bool)×(List AO)}{a:Value}{r:Nat}{b:Value}{s:Nat}(c:fR n j q=some f)(g:AB Am w r (Iv 0 0) 4 j.Bound a)(d:AB C_Span w s (Iv 0 0) 92 j.Required b)(t:No b a):
 Calls prog 24 [.agg #[a,b],.i q].toArray w (DM fun u k=>u= .i f.1∧AB Am k r (Iv 0 0) 4 f.2.1 a∧AB C_Span k s (Iv 0 0) 92 f.2.2 b∧Bl (SI (pO a) (pO b)) w k):=by
 have v:Bl (SI (pO a) (pO b)) w w:=Bl.refl _ w;have x:=AB.blk g;have I:=AB.blk d;unfold fR at c;refine AA func24 z ntmps24 (Rc 2 (Ef z (AF z z) ?_));rintro _ J ⟨K,rfl,L,M,H,h⟩;have⟨y,N⟩:=wJ v H;have⟨g,d⟩:=Bs g d H;refine Ro 5 (Fl HE EI h (Ro 1 ?_));refine Cg c oQ (fun _ l=>(AaZ l g:)) ?_;rintro O c _ A ⟨rfl,m,i⟩;have B:Bl (SI (pO a) (pO b)) w A:=Bl.but y i (Ai (fun e hg=>(Or.inl (Or.inl hg))));have h:=Aj.but h i (Ai (Nb.of x));have C:No a b:=(No.symm t);have d:=AB.butF d i (Ai (fun e hg o hq=>C e o hg hq));have P:=(i).size;refine Ro 5 (Fl FI DS h (Ro 1 ?_));refine Cg c dM (fun _ l=>(sC l d:)) ?_;rintro Q c _ D ⟨rfl,E,p⟩;have F:Bl (SI (pO a) (pO b)) w D:=Bl.but B p (Ai (fun e hg=>(Or.inl (Or.inr hg))));have G:No b a:=t;have m:=AB.butF m p (Ai (fun e hg o hq=>G e o hg hq));have R:=(p).size;cases BM c;exact Ro 10 (Ne z z ⟨_,z,z,m,E,F⟩)
def JV(a0:List Bool)(k0:Int->Int->Option Int):Nat->Int->Int->Option Int
 |0,_,_=>none
 |m+1,b,a=>cond (decide (a<(a0.length:Int))) ((AE a0 a).bind fun c=>cond (c !=(((Int.tmod b 3)==0))) (some (-1)) (JV a0 k0 m (wrap .i64 (b+1)) (wrap .i64 (a+1)))) (k0 b a)
def fX(n:Nat)(a0:List Bool)(a1:Int):Option Int:=JV a0 (fun a b=>some a) n a1 0
theorem AfL{h:List Bool}{i j:Int}{k:Value}(a:fX n h i=some j)(m:H<=w.heap.size)(l:AS Am w H h k):
 Calls prog 56 [k,.i i].toArray w (An (.i j) w):=by
 unfold fX at a;refine AA func56 z ntmps56 (Rc 12 (WC.loopD (fun d g wl=>∃b e:Int,Kn 23 [(0,k),(1,.i b),(5,.i e)] g∧AH w wl∧JV h (fun b e=>(some b)) d b e=some j) n ?_ ?_))
 ·intro g f;exact⟨i,0,f.sub z,AH.refl _,a⟩
 ·rintro d g o ⟨b,e,f,c,a⟩;refine Bp f ?_;rcases d with _|d;exact Bm a;rw [JV.eq_2]at a;have p:=c.size;refine Rc 5 (Yl z (CB z Da (l.oj c)) (Ro 3 (Wf a c ?_)));intro a;refine Rc 9 (Il a (l.oj c) Da EH Dl ?_);rintro q a _;refine Ro 3 (Yl z (NM z sI z z) (Ro 2 (Wt a c ?_)));intro a;refine Rc 15 ?_;intro g f;exact⟨d,nr,(wrap .i64 (b+1)),(wrap .i64 (e+1)),f.sub z,c,a⟩
def Jl(a0:List AO)(k0:Int->Int->Option Int):Nat->Int->Int->Option Int
 |0,_,_=>none
 |m+1,b,a=>cond (decide (a<(a0.length:Int))) ((AE a0 a).bind fun d=>cond (d.Early !=b) (some (-1)) ((AE a0 a).bind fun c=>cond (c.Late !=(wrap .i64 (b+1))) (some (-1)) (Jl a0 k0 m (wrap .i64 ((wrap .i64 (b+1))+1)) (wrap .i64 (a+1))))) (k0 b a)
def fH(n:Nat)(a0:List AO)(a1:Int):Option Int:=Jl a0 (fun a b=>some a) n a1 0
theorem AiE{h:List AO}{i j:Int}{k:Value}(a:fH n h i=some j)(r:H<=w.heap.size)(l:AS C_Span w H h k):
 Calls prog 57 [k,.i i].toArray w (An (.i j) w):=by
 unfold fH at a;refine AA func57 z ntmps57 (Rc 12 (WC.loopD (fun d g wl=>∃c e:Int,Kn 31 [(0,k),(1,.i c),(5,.i e)] g∧AH w wl∧Jl h (fun c e=>(some c)) d c e=some j) n ?_ ?_))
 ·intro g f;exact⟨i,0,f.sub z,AH.refl _,a⟩
 ·rintro d g s ⟨c,e,f,b,a⟩;refine Bp f ?_;rcases d with _|d;exact Bm a;rw [Jl.eq_2]at a;have t:=b.size;refine Rc 5 (Yl z (CB z Ec (l.oj b)) (Ro 3 (Wf a b ?_)));intro a;refine Rc 9 (Ix a (l.oj b) Ec Ax ?_);rintro u v a _ ⟨x,y,A,rfl,B,m,o⟩;obtain rfl:=BH m;refine Fc Bb AK o (Ro 4 (Wt a b ?_));intro a;refine Rc 14 (Ix a (l.oj b) Ec Ax ?_);rintro C D a _ ⟨E,F,G,rfl,I,p,q⟩;obtain rfl:=BH p;refine Fc Be AK q (Ro 4 (Wt a b ?_));intro a;refine Rc 15 ?_;intro g f;exact⟨d,nr,(wrap .i64 ((wrap .i64 (c+1))+1)),(wrap .i64 (e+1)),f.sub z,b,a⟩
def XQ(n:Nat)(a0:BL)(a1:Int):Option Int:=(fX n a0.Bound a1).bind fun b=>cond (decide (b<0)) (some (-1)) ((fH n a0.Required b).bind fun a=>cond (decide (a<0)) (some (-1)) (some a))
theorem AcL{c:BL}{g h:Int}{i j:Value}(a:XQ n c g=some h)(p:H<=w.heap.size)(l:AS Am w H c.Bound i)(m:AS C_Span w H c.Required j):
 Calls prog 25 [.agg #[i,j],.i g].toArray w (An (.i h) w):=by
 unfold XQ at a;refine AA func25 z ntmps25 (Rc 2 (Ef z (AF z z) ?_));rintro _ q ⟨r,rfl,s,t,d,b⟩;have u:=d.size;refine Ro 5 (Fl HE EI b (Ro 1 ?_));refine Cs a d yJ (fun _ e=>(AfL e (by omega) (l.oj d):)) ?_;rintro v a x o ⟨f,y⟩;have b:=b.ext o;refine Ro 10 (Wt a f ?_);intro a;refine Rc 4 (Fl FI DS b (Ro 1 ?_));refine Cs a f AbQ (fun _ e=>(AiE e (by omega) (m.oj f):)) ?_;rintro A a B C ⟨k,D⟩;refine Ro 10 (Wt a k ?_);intro a;exact Iw a k

theorem Fa{n:Nat}{a:List Int}{left:Int}(hR:(fun xs=>xs.length<=9223372036854775807∧∀x∈xs,(Ku .i64) x) a)(h0:0<=left)(h1:left<=1048576)(hn:1048577<=n):∃r,Uz n a left=some r∧r<=left∧(0<=r->(fun xs=>xs.length<=1048576∧∀x∈xs,(fun _=>True) x) a):=by
 have hl:=hR.1
 rw [Uz,AY (by omega) (by omega)]
 by_cases h:left-(a.length:Int)<0
 ·rw [decide_eq_true h];exact⟨-1,z,by omega,fun h=>by omega⟩
 ·rw [decide_eq_false h];exact⟨_,z,by omega,fun _=>⟨by omega,fun x _=>trivial⟩⟩
theorem zW{n:Nat}{a:BQ}{left:Int}(hR:QT a)(h0:0<=left)(h1:left<=1048576)(hn:1048577<=n):∃r,Tx n a left=some r∧r<=left∧(0<=r->Kk a):=by
 rw [Tx]
 have g0:a.Name.size<=9223372036854775807:=EB▸hR.1
 have w0:wrap .i64 (left-(a.Name.size:Int))=left-(a.Name.size:Int):=AY (by omega) (by omega)
 rw [w0]
 generalize hq0:left-(a.Name.size:Int)=r0
 by_cases h_0:r0<0
 ·rw [decide_eq_true h_0];exact⟨-1,z,by omega,fun h=>by omega⟩
 rw [decide_eq_false h_0,cond_false]
 exact⟨_,z,by omega,fun _=>⟨(by omega),trivial,trivial,trivial⟩⟩
theorem pY{n:Nat}{a:List BQ}{left:Int}(hR:(fun xs=>xs.length<=9223372036854775807∧∀x∈xs,QT x) a)(h0:0<=left)(h1:left<=1048576)(hn:1048577<=n):∃r,VU n a left=some r∧r<=left∧(0<=r->(fun xs=>xs.length<=1048576∧∀x∈xs,Kk x) a):=by
 have hl:=hR.1
 rw [VU,AY (by omega) (by omega)]
 by_cases h:left-(a.length:Int)<0
 ·rw [decide_eq_true h];exact⟨-1,z,by omega,fun h=>by omega⟩
 ·rw [decide_eq_false h,cond_false]
  have⟨r,e,hr,hs⟩:=iY (xs:=a) (L:=fun m l i=>GX n a (fun i7 i8=>(some i7)) m l i) (f:=Tx n) (SM:=Kk) (by omega) (fun x hx left g0 g1=>zW (hR.2 x hx) g0 g1 hn) (fun m i left hi hi2=>by simp only [GX.eq_2,NQ hi,cond_true,Do hi,Option.bind_some,Vw hi2]) (fun m left=>by simp only [GX.eq_2,Nj,cond_false]) n 0 (left-(a.length:Int)) (by omega) (by omega) (by omega) (by omega) (fun j _ hj=>by omega)
  exact⟨r,e,by omega,fun h=>⟨by omega,hs h⟩⟩
theorem jZ{n:Nat}{a:Ab}{left:Int}(hR:Jt a)(h0:0<=left)(h1:left<=1048576)(hn:1048577<=n):∃r,UB n a left=some r∧r<=left∧(0<=r->EF a):=by
 rw [UB]
 have⟨r0,e0,l0,s0⟩:=Fa (n:=n) (left:=left) hR.1 h0 h1 hn
 rw [e0,Option.bind_some]
 by_cases h_0:r0<0
 ·rw [decide_eq_true h_0];exact⟨-1,z,by omega,fun h=>by omega⟩
 rw [decide_eq_false h_0,cond_false]
 have⟨r1,e1,l1,s1⟩:=Fa (n:=n) (left:=r0) hR.2.1 (show(0:Int)<=r0 by omega) (by omega) hn
 rw [e1,Option.bind_some]
 by_cases h_1:r1<0
 ·rw [decide_eq_true h_1];exact⟨-1,z,by omega,fun h=>by omega⟩
 rw [decide_eq_false h_1,cond_false]
 have⟨r2,e2,l2,s2⟩:=Fa (n:=n) (left:=r1) hR.2.2 (show(0:Int)<=r1 by omega) (by omega) hn
 rw [e2,Option.bind_some]
 by_cases h_2:r2<0
 ·rw [decide_eq_true h_2];exact⟨-1,z,by omega,fun h=>by omega⟩
 rw [decide_eq_false h_2,cond_false]
 exact⟨_,z,by omega,fun _=>⟨s0 (by omega),s1 (by omega),s2 (by omega)⟩⟩
theorem UD{n:Nat}{a:List Ab}{left:Int}(hR:(fun xs=>xs.length<=9223372036854775807∧∀x∈xs,Jt x) a)(h0:0<=left)(h1:left<=1048576)(hn:1048577<=n):∃r,Sm n a left=some r∧r<=left∧(0<=r->(fun xs=>xs.length<=1048576∧∀x∈xs,EF x) a):=by
 have hl:=hR.1
 rw [Sm,AY (by omega) (by omega)]
 by_cases h:left-(a.length:Int)<0
 ·rw [decide_eq_true h];exact⟨-1,z,by omega,fun h=>by omega⟩
 ·rw [decide_eq_false h,cond_false]
  have⟨r,e,hr,hs⟩:=iY (xs:=a) (L:=fun m l i=>GW n a (fun i7 i8=>(some i7)) m l i) (f:=UB n) (SM:=EF) (by omega) (fun x hx left g0 g1=>jZ (hR.2 x hx) g0 g1 hn) (fun m i left hi hi2=>by simp only [GW.eq_2,NQ hi,cond_true,Do hi,Option.bind_some,Vw hi2]) (fun m left=>by simp only [GW.eq_2,Nj,cond_false]) n 0 (left-(a.length:Int)) (by omega) (by omega) (by omega) (by omega) (fun j _ hj=>by omega)
  exact⟨r,e,by omega,fun h=>⟨by omega,hs h⟩⟩
theorem AcN{n:Nat}{a:Aq}{left:Int}(hR:QU a)(h0:0<=left)(h1:left<=1048576)(hn:1048577<=n):∃r,Se n a left=some r∧r<=left∧(0<=r->Kp a):=by
 rw [Se]
 have⟨r0,e0,l0,s0⟩:=UD (n:=n) (left:=left) hR.2.2.2.2.1 h0 h1 hn
 rw [e0,Option.bind_some]
 by_cases h_0:r0<0
 ·rw [decide_eq_true h_0];exact⟨-1,z,by omega,fun h=>by omega⟩
 rw [decide_eq_false h_0,cond_false]
 have⟨r1,e1,l1,s1⟩:=UD (n:=n) (left:=r0) hR.2.2.2.2.2 (show(0:Int)<=r0 by omega) (by omega) hn
 rw [e1,Option.bind_some]
 by_cases h_1:r1<0
 ·rw [decide_eq_true h_1];exact⟨-1,z,by omega,fun h=>by omega⟩
 rw [decide_eq_false h_1,cond_false]
 exact⟨_,z,by omega,fun _=>⟨trivial,trivial,trivial,trivial,s0 (by omega),s1 (by omega)⟩⟩
theorem qM{n:Nat}{a:List Aq}{left:Int}(hR:(fun xs=>xs.length<=9223372036854775807∧∀x∈xs,QU x) a)(h0:0<=left)(h1:left<=1048576)(hn:1048577<=n):∃r,Ua n a left=some r∧r<=left∧(0<=r->(fun xs=>xs.length<=1048576∧∀x∈xs,Kp x) a):=by
 have hl:=hR.1
 rw [Ua,AY (by omega) (by omega)]
 by_cases h:left-(a.length:Int)<0
 ·rw [decide_eq_true h];exact⟨-1,z,by omega,fun h=>by omega⟩
 ·rw [decide_eq_false h,cond_false]
  have⟨r,e,hr,hs⟩:=iY (xs:=a) (L:=fun m l i=>GY n a (fun i7 i8=>(some i7)) m l i) (f:=Se n) (SM:=Kp) (by omega) (fun x hx left g0 g1=>AcN (hR.2 x hx) g0 g1 hn) (fun m i left hi hi2=>by simp only [GY.eq_2,NQ hi,cond_true,Do hi,Option.bind_some,Vw hi2]) (fun m left=>by simp only [GY.eq_2,Nj,cond_false]) n 0 (left-(a.length:Int)) (by omega) (by omega) (by omega) (by omega) (fun j _ hj=>by omega)
  exact⟨r,e,by omega,fun h=>⟨by omega,hs h⟩⟩
theorem uI{n:Nat}{a:Af}{left:Int}(hR:Nx a)(h0:0<=left)(h1:left<=1048576)(hn:1048577<=n):∃r,Tb n a left=some r∧r<=left∧(0<=r->FY a):=by
 rw [Tb]
 have g0:a.Name.size<=9223372036854775807:=EB▸hR.1
 have w0:wrap .i64 (left-(a.Name.size:Int))=left-(a.Name.size:Int):=AY (by omega) (by omega)
 rw [w0]
 generalize hq0:left-(a.Name.size:Int)=r0
 by_cases h_0:r0<0
 ·rw [decide_eq_true h_0];exact⟨-1,z,by omega,fun h=>by omega⟩
 rw [decide_eq_false h_0,cond_false]
 have⟨r1,e1,l1,s1⟩:=pY (n:=n) (left:=r0) hR.2.2.1 (show(0:Int)<=r0 by omega) (by omega) hn
 rw [e1,Option.bind_some]
 by_cases h_1:r1<0
 ·rw [decide_eq_true h_1];exact⟨-1,z,by omega,fun h=>by omega⟩
 rw [decide_eq_false h_1,cond_false]
 have⟨r2,e2,l2,s2⟩:=qM (n:=n) (left:=r1) hR.2.2.2.1 (show(0:Int)<=r1 by omega) (by omega) hn
 rw [e2,Option.bind_some]
 by_cases h_2:r2<0
 ·rw [decide_eq_true h_2];exact⟨-1,z,by omega,fun h=>by omega⟩
 rw [decide_eq_false h_2,cond_false]
 have⟨r3,e3,l3,s3⟩:=Fa (n:=n) (left:=r2) hR.2.2.2.2.1 (show(0:Int)<=r2 by omega) (by omega) hn
 rw [e3,Option.bind_some]
 by_cases h_3:r3<0
 ·rw [decide_eq_true h_3];exact⟨-1,z,by omega,fun h=>by omega⟩
 rw [decide_eq_false h_3,cond_false]
 exact⟨_,z,by omega,fun _=>⟨(by omega),trivial,s1 (by omega),s2 (by omega),s3 (by omega),trivial,trivial⟩⟩
theorem jQ{n:Nat}{a:List Af}{left:Int}(hR:(fun xs=>xs.length<=9223372036854775807∧∀x∈xs,Nx x) a)(h0:0<=left)(h1:left<=1048576)(hn:1048577<=n):∃r,Uo n a left=some r∧r<=left∧(0<=r->(fun xs=>xs.length<=1048576∧∀x∈xs,FY x) a):=by
 have hl:=hR.1
 rw [Uo,AY (by omega) (by omega)]
 by_cases h:left-(a.length:Int)<0
 ·rw [decide_eq_true h];exact⟨-1,z,by omega,fun h=>by omega⟩
 ·rw [decide_eq_false h,cond_false]
  have⟨r,e,hr,hs⟩:=iY (xs:=a) (L:=fun m l i=>GP n a (fun i7 i8=>(some i7)) m l i) (f:=Tb n) (SM:=FY) (by omega) (fun x hx left g0 g1=>uI (hR.2 x hx) g0 g1 hn) (fun m i left hi hi2=>by simp only [GP.eq_2,NQ hi,cond_true,Do hi,Option.bind_some,Vw hi2]) (fun m left=>by simp only [GP.eq_2,Nj,cond_false]) n 0 (left-(a.length:Int)) (by omega) (by omega) (by omega) (by omega) (fun j _ hj=>by omega)
  exact⟨r,e,by omega,fun h=>⟨by omega,hs h⟩⟩
theorem YS{n:Nat}{a:Ad}{left:Int}(hR:MA a)(h0:0<=left)(h1:left<=1048576)(hn:1048577<=n):∃r,VE n a left=some r∧r<=left∧(0<=r->Iy a):=by
 rw [VE]
 have⟨r0,e0,l0,s0⟩:=jQ (n:=n) (left:=left) hR h0 h1 hn
 rw [e0,Option.bind_some]
 by_cases h_0:r0<0
 ·rw [decide_eq_true h_0];exact⟨-1,z,by omega,fun h=>by omega⟩
 rw [decide_eq_false h_0,cond_false]
 exact⟨_,z,by omega,fun _=>s0 (by omega)⟩
theorem Vi{n:Nat}{a:AX}{left:Int}(hR:GK a)(h0:0<=left)(h1:left<=1048576)(hn:1048577<=n):∃r,Si n a left=some r∧r<=left∧(0<=r->EJ a):=by
 rw [Si]
 have g0:a.Name.size<=9223372036854775807:=EB▸hR.1
 have w0:wrap .i64 (left-(a.Name.size:Int))=left-(a.Name.size:Int):=AY (by omega) (by omega)
 rw [w0]
 generalize hq0:left-(a.Name.size:Int)=r0
 by_cases h_0:r0<0
 ·rw [decide_eq_true h_0];exact⟨-1,z,by omega,fun h=>by omega⟩
 rw [decide_eq_false h_0,cond_false]
 have⟨r1,e1,l1,s1⟩:=Fa (n:=n) (left:=r0) hR.2.2 (show(0:Int)<=r0 by omega) (by omega) hn
 rw [e1,Option.bind_some]
 by_cases h_1:r1<0
 ·rw [decide_eq_true h_1];exact⟨-1,z,by omega,fun h=>by omega⟩
 rw [decide_eq_false h_1,cond_false]
 exact⟨_,z,by omega,fun _=>⟨(by omega),trivial,s1 (by omega)⟩⟩
theorem TR{n:Nat}{a:List AX}{left:Int}(hR:(fun xs=>xs.length<=9223372036854775807∧∀x∈xs,GK x) a)(h0:0<=left)(h1:left<=1048576)(hn:1048577<=n):∃r,VL n a left=some r∧r<=left∧(0<=r->(fun xs=>xs.length<=1048576∧∀x∈xs,EJ x) a):=by
 have hl:=hR.1
 rw [VL,AY (by omega) (by omega)]
 by_cases h:left-(a.length:Int)<0
 ·rw [decide_eq_true h];exact⟨-1,z,by omega,fun h=>by omega⟩
 ·rw [decide_eq_false h,cond_false]
  have⟨r,e,hr,hs⟩:=iY (xs:=a) (L:=fun m l i=>GR n a (fun i7 i8=>(some i7)) m l i) (f:=Si n) (SM:=EJ) (by omega) (fun x hx left g0 g1=>Vi (hR.2 x hx) g0 g1 hn) (fun m i left hi hi2=>by simp only [GR.eq_2,NQ hi,cond_true,Do hi,Option.bind_some,Vw hi2]) (fun m left=>by simp only [GR.eq_2,Nj,cond_false]) n 0 (left-(a.length:Int)) (by omega) (by omega) (by omega) (by omega) (fun j _ hj=>by omega)
  exact⟨r,e,by omega,fun h=>⟨by omega,hs h⟩⟩
theorem XT{n:Nat}{a:List ByteArray}{left:Int}(hR:(fun xs=>xs.length<=9223372036854775807∧∀x∈xs,(fun s=>s.size<=maxLen) x) a)(h0:0<=left)(h1:left<=1048576)(hn:1048577<=n):∃r,UX n a left=some r∧r<=left∧(0<=r->(fun xs=>xs.length<=1048576∧∀x∈xs,(fun s=>s.size<=1048576) x) a):=by
 have hl:=hR.1
 rw [UX,AY (by omega) (by omega)]
 by_cases h:left-(a.length:Int)<0
 ·rw [decide_eq_true h];exact⟨-1,z,by omega,fun h=>by omega⟩
 ·rw [decide_eq_false h,cond_false]
  have⟨r,e,hr,hs⟩:=iY (xs:=a) (L:=fun m l i=>GN a (fun i5 i6=>(some i5)) m l i) (f:=fun(x:ByteArray) (l:Int)=>cond (decide (wrap .i64 (l-(x.size:Int))<0)) (some (-1)) (some (wrap .i64 (l-(x.size:Int))))) (SM:=fun s=>s.size<=1048576) (by omega) (fun x hx l g0 g1=>by
   have g:=hR.2 x hx
   have g:(x.size:Int)<=9223372036854775807:=by rw [EB]at g;omega
   rw [AY (by omega) (by omega)]
   by_cases h1:l-(x.size:Int)<0
   ·exact⟨-1,by rw [decide_eq_true h1];rfl,by omega,fun h=>by omega⟩
   ·exact⟨_,by rw [decide_eq_false h1];rfl,by omega,fun _=>by omega⟩) (fun m i l hi hi2=>by
   simp only [GN.eq_2,NQ hi,cond_true,Do hi,Option.bind_some,Vw hi2]
   cases h1:decide (wrap .i64 (l-(a[i].size:Int))<0)with
   |true=>simp
   |false=>simp only [cond_false,Option.bind_some,h1]) (fun m left=>by simp only [GN.eq_2,Nj,cond_false]) n 0 (left-(a.length:Int)) (by omega) (by omega) (by omega) (by omega) (fun j _ hj=>by omega)
  exact⟨r,e,by omega,fun h=>⟨by omega,hs h⟩⟩
theorem wE{n:Nat}{a:BN}{left:Int}(hR:OG a)(h0:0<=left)(h1:left<=1048576)(hn:1048577<=n):∃r,TD n a left=some r∧r<=left∧(0<=r->Hh a):=by
 rw [TD]
 have g0:a.Name.size<=9223372036854775807:=EB▸hR.1
 have w0:wrap .i64 (left-(a.Name.size:Int))=left-(a.Name.size:Int):=AY (by omega) (by omega)
 rw [w0]
 generalize hq0:left-(a.Name.size:Int)=r0
 by_cases h_0:r0<0
 ·rw [decide_eq_true h_0];exact⟨-1,z,by omega,fun h=>by omega⟩
 rw [decide_eq_false h_0,cond_false]
 exact⟨_,z,by omega,fun _=>⟨(by omega),trivial,trivial⟩⟩
theorem jF{n:Nat}{a:List BN}{left:Int}(hR:(fun xs=>xs.length<=9223372036854775807∧∀x∈xs,OG x) a)(h0:0<=left)(h1:left<=1048576)(hn:1048577<=n):∃r,VC n a left=some r∧r<=left∧(0<=r->(fun xs=>xs.length<=1048576∧∀x∈xs,Hh x) a):=by
 have hl:=hR.1
 rw [VC,AY (by omega) (by omega)]
 by_cases h:left-(a.length:Int)<0
 ·rw [decide_eq_true h];exact⟨-1,z,by omega,fun h=>by omega⟩
 ·rw [decide_eq_false h,cond_false]
  have⟨r,e,hr,hs⟩:=iY (xs:=a) (L:=fun m l i=>GQ n a (fun i7 i8=>(some i7)) m l i) (f:=TD n) (SM:=Hh) (by omega) (fun x hx left g0 g1=>wE (hR.2 x hx) g0 g1 hn) (fun m i left hi hi2=>by simp only [GQ.eq_2,NQ hi,cond_true,Do hi,Option.bind_some,Vw hi2]) (fun m left=>by simp only [GQ.eq_2,Nj,cond_false]) n 0 (left-(a.length:Int)) (by omega) (by omega) (by omega) (by omega) (fun j _ hj=>by omega)
  exact⟨r,e,by omega,fun h=>⟨by omega,hs h⟩⟩
theorem Yn{n:Nat}{a:AQ}{left:Int}(hR:NU a)(h0:0<=left)(h1:left<=1048576)(hn:1048577<=n):∃r,Uv n a left=some r∧r<=left∧(0<=r->Ld a):=by
 rw [Uv]
 have⟨r0,e0,l0,s0⟩:=TR (n:=n) (left:=left) hR.1 h0 h1 hn
 rw [e0,Option.bind_some]
 by_cases h_0:r0<0
 ·rw [decide_eq_true h_0];exact⟨-1,z,by omega,fun h=>by omega⟩
 rw [decide_eq_false h_0,cond_false]
 have⟨r1,e1,l1,s1⟩:=XT (n:=n) (left:=r0) hR.2.1 (show(0:Int)<=r0 by omega) (by omega) hn
 rw [e1,Option.bind_some]
 by_cases h_1:r1<0
 ·rw [decide_eq_true h_1];exact⟨-1,z,by omega,fun h=>by omega⟩
 rw [decide_eq_false h_1,cond_false]
 have⟨r2,e2,l2,s2⟩:=jF (n:=n) (left:=r1) hR.2.2 (show(0:Int)<=r1 by omega) (by omega) hn
 rw [e2,Option.bind_some]
 by_cases h_2:r2<0
 ·rw [decide_eq_true h_2];exact⟨-1,z,by omega,fun h=>by omega⟩
 rw [decide_eq_false h_2,cond_false]
 exact⟨_,z,by omega,fun _=>⟨s0 (by omega),s1 (by omega),s2 (by omega)⟩⟩
theorem rI{n:Nat}{a:Aw}{left:Int}(hR:OC a)(h0:0<=left)(h1:left<=1048576)(hn:1048577<=n):∃r,TX n a left=some r∧r<=left∧(0<=r->Hx a):=by
 rw [TX]
 have⟨r0,e0,l0,s0⟩:=Fa (n:=n) (left:=left) hR.1 h0 h1 hn
 rw [e0,Option.bind_some]
 by_cases h_0:r0<0
 ·rw [decide_eq_true h_0];exact⟨-1,z,by omega,fun h=>by omega⟩
 rw [decide_eq_false h_0,cond_false]
 have⟨r1,e1,l1,s1⟩:=Fa (n:=n) (left:=r0) hR.2.1 (show(0:Int)<=r0 by omega) (by omega) hn
 rw [e1,Option.bind_some]
 by_cases h_1:r1<0
 ·rw [decide_eq_true h_1];exact⟨-1,z,by omega,fun h=>by omega⟩
 rw [decide_eq_false h_1,cond_false]
 have⟨r2,e2,l2,s2⟩:=Fa (n:=n) (left:=r1) hR.2.2.1 (show(0:Int)<=r1 by omega) (by omega) hn
 rw [e2,Option.bind_some]
 by_cases h_2:r2<0
 ·rw [decide_eq_true h_2];exact⟨-1,z,by omega,fun h=>by omega⟩
 rw [decide_eq_false h_2,cond_false]
 have⟨r3,e3,l3,s3⟩:=Fa (n:=n) (left:=r2) hR.2.2.2 (show(0:Int)<=r2 by omega) (by omega) hn
 rw [e3,Option.bind_some]
 by_cases h_3:r3<0
 ·rw [decide_eq_true h_3];exact⟨-1,z,by omega,fun h=>by omega⟩
 rw [decide_eq_false h_3,cond_false]
 exact⟨_,z,by omega,fun _=>⟨s0 (by omega),s1 (by omega),s2 (by omega),s3 (by omega)⟩⟩
theorem lC{n:Nat}{a:List Aw}{left:Int}(hR:(fun xs=>xs.length<=9223372036854775807∧∀x∈xs,OC x) a)(h0:0<=left)(h1:left<=1048576)(hn:1048577<=n):∃r,VA n a left=some r∧r<=left∧(0<=r->(fun xs=>xs.length<=1048576∧∀x∈xs,Hx x) a):=by
 have hl:=hR.1
 rw [VA,AY (by omega) (by omega)]
 by_cases h:left-(a.length:Int)<0
 ·rw [decide_eq_true h];exact⟨-1,z,by omega,fun h=>by omega⟩
 ·rw [decide_eq_false h,cond_false]
  have⟨r,e,hr,hs⟩:=iY (xs:=a) (L:=fun m l i=>GV n a (fun i7 i8=>(some i7)) m l i) (f:=TX n) (SM:=Hx) (by omega) (fun x hx left g0 g1=>rI (hR.2 x hx) g0 g1 hn) (fun m i left hi hi2=>by simp only [GV.eq_2,NQ hi,cond_true,Do hi,Option.bind_some,Vw hi2]) (fun m left=>by simp only [GV.eq_2,Nj,cond_false]) n 0 (left-(a.length:Int)) (by omega) (by omega) (by omega) (by omega) (fun j _ hj=>by omega)
  exact⟨r,e,by omega,fun h=>⟨by omega,hs h⟩⟩
theorem lW{n:Nat}{a:AM}{left:Int}(hR:Oj a)(h0:0<=left)(h1:left<=1048576)(hn:1048577<=n):∃r,UZ n a left=some r∧r<=left∧(0<=r->IU a):=by
 rw [UZ]
 have⟨r0,e0,l0,s0⟩:=YS (n:=n) (left:=left) hR.1 h0 h1 hn
 rw [e0,Option.bind_some]
 by_cases h_0:r0<0
 ·rw [decide_eq_true h_0];exact⟨-1,z,by omega,fun h=>by omega⟩
 rw [decide_eq_false h_0,cond_false]
 have⟨r1,e1,l1,s1⟩:=Yn (n:=n) (left:=r0) hR.2.1 (show(0:Int)<=r0 by omega) (by omega) hn
 rw [e1,Option.bind_some]
 by_cases h_1:r1<0
 ·rw [decide_eq_true h_1];exact⟨-1,z,by omega,fun h=>by omega⟩
 rw [decide_eq_false h_1,cond_false]
 have⟨r2,e2,l2,s2⟩:=lC (n:=n) (left:=r1) hR.2.2 (show(0:Int)<=r1 by omega) (by omega) hn
 rw [e2,Option.bind_some]
 by_cases h_2:r2<0
 ·rw [decide_eq_true h_2];exact⟨-1,z,by omega,fun h=>by omega⟩
 rw [decide_eq_false h_2,cond_false]
 exact⟨_,z,by omega,fun _=>⟨s0 (by omega),s1 (by omega),s2 (by omega)⟩⟩
theorem bF{n:Nat}{a:Ak}{left:Int}(hR:Pq a)(h0:0<=left)(h1:left<=1048576)(hn:1048577<=n):∃r,ZG n a left=some r∧r<=left∧(0<=r->QO a):=by
 rw [ZG]
 have g0:a.Name.size<=9223372036854775807:=EB▸hR.1
 have w0:wrap .i64 (left-(a.Name.size:Int))=left-(a.Name.size:Int):=AY (by omega) (by omega)
 rw [w0]
 generalize hq0:left-(a.Name.size:Int)=r0
 by_cases h_0:r0<0
 ·rw [decide_eq_true h_0];exact⟨-1,z,by omega,fun h=>by omega⟩
 rw [decide_eq_false h_0,cond_false]
 exact⟨_,z,by omega,fun _=>⟨(by omega),trivial,trivial,trivial,trivial⟩⟩
theorem iU{n:Nat}{a:List Bool}{left:Int}(hR:(fun xs=>xs.length<=9223372036854775807∧∀x∈xs,(fun _=>True) x) a)(h0:0<=left)(h1:left<=1048576)(hn:1048577<=n):∃r,bQ n a left=some r∧r<=left∧(0<=r->(fun xs=>xs.length<=1048576∧∀x∈xs,(fun _=>True) x) a):=by
 have hl:=hR.1
 rw [bQ,AY (by omega) (by omega)]
 by_cases h:left-(a.length:Int)<0
 ·rw [decide_eq_true h];exact⟨-1,z,by omega,fun h=>by omega⟩
 ·rw [decide_eq_false h];exact⟨_,z,by omega,fun _=>⟨by omega,fun x _=>trivial⟩⟩
theorem Wv{n:Nat}{a:List AO}{left:Int}(hR:(fun xs=>xs.length<=9223372036854775807∧∀x∈xs,Nu x) a)(h0:0<=left)(h1:left<=1048576)(hn:1048577<=n):∃r,YC n a left=some r∧r<=left∧(0<=r->(fun xs=>xs.length<=1048576∧∀x∈xs,HK x) a):=by
 have hl:=hR.1
 rw [YC,AY (by omega) (by omega)]
 by_cases h:left-(a.length:Int)<0
 ·rw [decide_eq_true h];exact⟨-1,z,by omega,fun h=>by omega⟩
 ·rw [decide_eq_false h];exact⟨_,z,by omega,fun _=>⟨by omega,fun x _=>⟨trivial,trivial⟩⟩⟩
theorem Zy{n:Nat}{a:Ap}{left:Int}(hR:Ou a)(h0:0<=left)(h1:left<=1048576)(hn:1048577<=n):∃r,aL n a left=some r∧r<=left∧(0<=r->Lm a):=by
 rw [aL]
 have⟨r0,e0,l0,s0⟩:=iU (n:=n) (left:=left) hR.1 h0 h1 hn
 rw [e0,Option.bind_some]
 by_cases h_0:r0<0
 ·rw [decide_eq_true h_0];exact⟨-1,z,by omega,fun h=>by omega⟩
 rw [decide_eq_false h_0,cond_false]
 have⟨r1,e1,l1,s1⟩:=Wv (n:=n) (left:=r0) hR.2.1 (show(0:Int)<=r0 by omega) (by omega) hn
 rw [e1,Option.bind_some]
 by_cases h_1:r1<0
 ·rw [decide_eq_true h_1];exact⟨-1,z,by omega,fun h=>by omega⟩
 rw [decide_eq_false h_1,cond_false]
 have⟨r2,e2,l2,s2⟩:=Wv (n:=n) (left:=r1) hR.2.2 (show(0:Int)<=r1 by omega) (by omega) hn
 rw [e2,Option.bind_some]
 by_cases h_2:r2<0
 ·rw [decide_eq_true h_2];exact⟨-1,z,by omega,fun h=>by omega⟩
 rw [decide_eq_false h_2,cond_false]
 exact⟨_,z,by omega,fun _=>⟨s0 (by omega),s1 (by omega),s2 (by omega)⟩⟩
theorem Xy{n:Nat}{a:List AJ}{left:Int}(hR:(fun xs=>xs.length<=9223372036854775807∧∀x∈xs,NL x) a)(h0:0<=left)(h1:left<=1048576)(hn:1048577<=n):∃r,eV n a left=some r∧r<=left∧(0<=r->(fun xs=>xs.length<=1048576∧∀x∈xs,Ij x) a):=by
 have hl:=hR.1
 rw [eV,AY (by omega) (by omega)]
 by_cases h:left-(a.length:Int)<0
 ·rw [decide_eq_true h];exact⟨-1,z,by omega,fun h=>by omega⟩
 ·rw [decide_eq_false h];exact⟨_,z,by omega,fun _=>⟨by omega,fun x _=>⟨trivial,⟨trivial,trivial⟩⟩⟩⟩
theorem QJ{n:Nat}{a:List Int}{k:Int->List Int->Option (List Int)}:∀(m:Nat) (i:Int) (l:List Int),Ny a k m i l=TG a (some) k m i l
 |0,_,_=>rfl
 |m+1,i,l=>by simp only [Ny.eq_2,IZ,Option.bind_some,QJ (n:=n) (a:=a) (k:=k) m]
theorem FA{n:Nat}{a:List Int}(h:(fun xs=>xs.length<=1048576∧∀x∈xs,(fun _=>True) x) a)(hn:1048577<=n):TK n a=some a:=by
 rw [TK,Cf h.1 (by omega),Option.bind_some,QJ (n:=n)]
 exact Gx (fun x hx=>z) h.1 hn
theorem yB{n:Nat}{a:BQ}(h:Kk a)(hn:1048577<=n):ZK n a=some a:=by
 rfl
theorem WV{n:Nat}{a:List BQ}{k:Int->List BQ->Option (List BQ)}:∀(m:Nat) (i:Int) (l:List BQ),LP n a k m i l=TG a (ZK n) k m i l
 |0,_,_=>rfl
 |m+1,i,l=>by simp only [LP.eq_2,IZ,Option.bind_some,WV (n:=n) (a:=a) (k:=k) m]
theorem qF{n:Nat}{a:List BQ}(h:(fun xs=>xs.length<=1048576∧∀x∈xs,Kk x) a)(hn:1048577<=n):Yt n a=some a:=by
 rw [Yt,Cf h.1 (by omega),Option.bind_some,WV (n:=n)]
 exact Gx (fun x hx=>yB (h.2 x hx) hn) h.1 hn
theorem mY{n:Nat}{a:Ab}(h:EF a)(hn:1048577<=n):Xx n a=some a:=by
 rw [Xx];simp only [FA (h.1) hn,FA (h.2.1) hn,FA (h.2.2) hn,Option.bind_some]
theorem QX{n:Nat}{a:List Ab}{k:Int->List Ab->Option (List Ab)}:∀(m:Nat) (i:Int) (l:List Ab),Lh n a k m i l=TG a (Xx n) k m i l
 |0,_,_=>rfl
 |m+1,i,l=>by simp only [Lh.eq_2,IZ,Option.bind_some,QX (n:=n) (a:=a) (k:=k) m]
theorem Th{n:Nat}{a:List Ab}(h:(fun xs=>xs.length<=1048576∧∀x∈xs,EF x) a)(hn:1048577<=n):YB n a=some a:=by
 rw [YB,Cf h.1 (by omega),Option.bind_some,QX (n:=n)]
 exact Gx (fun x hx=>mY (h.2 x hx) hn) h.1 hn
theorem AdB{n:Nat}{a:Aq}(h:Kp a)(hn:1048577<=n):YN n a=some a:=by
 rw [YN];simp only [Th (h.2.2.2.2.1) hn,Th (h.2.2.2.2.2) hn,Option.bind_some]
theorem WY{n:Nat}{a:List Aq}{k:Int->List Aq->Option (List Aq)}:∀(m:Nat) (i:Int) (l:List Aq),Lb n a k m i l=TG a (YN n) k m i l
 |0,_,_=>rfl
 |m+1,i,l=>by simp only [Lb.eq_2,IZ,Option.bind_some,WY (n:=n) (a:=a) (k:=k) m]
theorem tX{n:Nat}{a:List Aq}(h:(fun xs=>xs.length<=1048576∧∀x∈xs,Kp x) a)(hn:1048577<=n):fB n a=some a:=by
 rw [fB,Cf h.1 (by omega),Option.bind_some,WY (n:=n)]
 exact Gx (fun x hx=>AdB (h.2 x hx) hn) h.1 hn
theorem vL{n:Nat}{a:Af}(h:FY a)(hn:1048577<=n):XU n a=some a:=by
 rw [XU];simp only [qF (h.2.2.1) hn,tX (h.2.2.2.1) hn,FA (h.2.2.2.2.1) hn,Option.bind_some]
theorem Tc{n:Nat}{a:List Af}{k:Int->List Af->Option (List Af)}:∀(m:Nat) (i:Int) (l:List Af),LY n a k m i l=TG a (XU n) k m i l
 |0,_,_=>rfl
 |m+1,i,l=>by simp only [LY.eq_2,IZ,Option.bind_some,Tc (n:=n) (a:=a) (k:=k) m]
theorem iX{n:Nat}{a:List Af}(h:(fun xs=>xs.length<=1048576∧∀x∈xs,FY x) a)(hn:1048577<=n):Yc n a=some a:=by
 rw [Yc,Cf h.1 (by omega),Option.bind_some,Tc (n:=n)]
 exact Gx (fun x hx=>vL (h.2 x hx) hn) h.1 hn
theorem XS{n:Nat}{a:Ad}(h:Iy a)(hn:1048577<=n):eO n a=some a:=by
 rw [eO];simp only [iX (h) hn,Option.bind_some]
theorem UV{n:Nat}{a:AX}(h:EJ a)(hn:1048577<=n):XR n a=some a:=by
 rw [XR];simp only [FA (h.2.2) hn,Option.bind_some]
theorem Ni{n:Nat}{a:List AX}{k:Int->List AX->Option (List AX)}:∀(m:Nat) (i:Int) (l:List AX),LS n a k m i l=TG a (XR n) k m i l
 |0,_,_=>rfl
 |m+1,i,l=>by simp only [LS.eq_2,IZ,Option.bind_some,Ni (n:=n) (a:=a) (k:=k) m]
theorem Tg{n:Nat}{a:List AX}(h:(fun xs=>xs.length<=1048576∧∀x∈xs,EJ x) a)(hn:1048577<=n):gK n a=some a:=by
 rw [gK,Cf h.1 (by omega),Option.bind_some,Ni (n:=n)]
 exact Gx (fun x hx=>UV (h.2 x hx) hn) h.1 hn
theorem PE{n:Nat}{a:List ByteArray}{k:Int->List ByteArray->Option (List ByteArray)}:∀(m:Nat) (i:Int) (l:List ByteArray),Lu a k m i l=TG a (some) k m i l
 |0,_,_=>rfl
 |m+1,i,l=>by simp only [Lu.eq_2,IZ,Option.bind_some,PE (n:=n) (a:=a) (k:=k) m]
theorem Xg{n:Nat}{a:List ByteArray}(h:(fun xs=>xs.length<=1048576∧∀x∈xs,(fun s=>s.size<=1048576) x) a)(hn:1048577<=n):dO n a=some a:=by
 rw [dO,Cf h.1 (by omega),Option.bind_some,PE (n:=n)]
 exact Gx (fun x hx=>z) h.1 hn
theorem uB{n:Nat}{a:BN}(h:Hh a)(hn:1048577<=n):Yz n a=some a:=by
 rfl
theorem Sf{n:Nat}{a:List BN}{k:Int->List BN->Option (List BN)}:∀(m:Nat) (i:Int) (l:List BN),LQ n a k m i l=TG a (Yz n) k m i l
 |0,_,_=>rfl
 |m+1,i,l=>by simp only [LQ.eq_2,IZ,Option.bind_some,Sf (n:=n) (a:=a) (k:=k) m]
theorem lB{n:Nat}{a:List BN}(h:(fun xs=>xs.length<=1048576∧∀x∈xs,Hh x) a)(hn:1048577<=n):gS n a=some a:=by
 rw [gS,Cf h.1 (by omega),Option.bind_some,Sf (n:=n)]
 exact Gx (fun x hx=>uB (h.2 x hx) hn) h.1 hn
theorem cG{n:Nat}{a:AQ}(h:Ld a)(hn:1048577<=n):aP n a=some a:=by
 rw [aP];simp only [Tg (h.1) hn,Xg (h.2.1) hn,lB (h.2.2) hn,Option.bind_some]
theorem uP{n:Nat}{a:Aw}(h:Hx a)(hn:1048577<=n):Xl n a=some a:=by
 rw [Xl];simp only [FA (h.1) hn,FA (h.2.1) hn,FA (h.2.2.1) hn,FA (h.2.2.2) hn,Option.bind_some]
theorem Sc{n:Nat}{a:List Aw}{k:Int->List Aw->Option (List Aw)}:∀(m:Nat) (i:Int) (l:List Aw),Ly n a k m i l=TG a (Xl n) k m i l
 |0,_,_=>rfl
 |m+1,i,l=>by simp only [Ly.eq_2,IZ,Option.bind_some,Sc (n:=n) (a:=a) (k:=k) m]
theorem jX{n:Nat}{a:List Aw}(h:(fun xs=>xs.length<=1048576∧∀x∈xs,Hx x) a)(hn:1048577<=n):Yd n a=some a:=by
 rw [Yd,Cf h.1 (by omega),Option.bind_some,Sc (n:=n)]
 exact Gx (fun x hx=>uP (h.2 x hx) hn) h.1 hn
theorem mW{n:Nat}{a:AM}(h:IU a)(hn:1048577<=n):SS n a=some a:=by
 rw [SS];simp only [XS (h.1) hn,cG (h.2.1) hn,jX (h.2.2) hn,Option.bind_some]
theorem ZR{n:Nat}{a:Ak}(h:QO a)(hn:1048577<=n):YF n a=some a:=by
 rfl
theorem Sp{n:Nat}{a:List Bool}{k:Int->List Bool->Option (List Bool)}:∀(m:Nat) (i:Int) (l:List Bool),Lt a k m i l=TG a (some) k m i l
 |0,_,_=>rfl
 |m+1,i,l=>by simp only [Lt.eq_2,IZ,Option.bind_some,Sp (n:=n) (a:=a) (k:=k) m]
theorem jA{n:Nat}{a:List Bool}(h:(fun xs=>xs.length<=1048576∧∀x∈xs,(fun _=>True) x) a)(hn:1048577<=n):Zs n a=some a:=by
 rw [Zs,Cf h.1 (by omega),Option.bind_some,Sp (n:=n)]
 exact Gx (fun x hx=>z) h.1 hn
theorem aO{n:Nat}{a:AO}(h:HK a)(hn:1048577<=n):Xt n a=some a:=by
 rfl
theorem Sz{n:Nat}{a:List AO}{k:Int->List AO->Option (List AO)}:∀(m:Nat) (i:Int) (l:List AO),Lr n a k m i l=TG a (Xt n) k m i l
 |0,_,_=>rfl
 |m+1,i,l=>by simp only [Lr.eq_2,IZ,Option.bind_some,Sz (n:=n) (a:=a) (k:=k) m]
theorem Wn{n:Nat}{a:List AO}(h:(fun xs=>xs.length<=1048576∧∀x∈xs,HK x) a)(hn:1048577<=n):XH n a=some a:=by
 rw [XH,Cf h.1 (by omega),Option.bind_some,Sz (n:=n)]
 exact Gx (fun x hx=>aO (h.2 x hx) hn) h.1 hn
theorem Zg{n:Nat}{a:Ap}(h:Lm a)(hn:1048577<=n):Tp n a=some a:=by
 rw [Tp];simp only [jA (h.1) hn,Wn (h.2.1) hn,Wn (h.2.2) hn,Option.bind_some]
theorem fP{n:Nat}{a:AJ}(h:Ij a)(hn:1048577<=n):XZ n a=some a:=by
 rw [XZ];simp only [aO (h.2) hn,Option.bind_some]
theorem PZ{n:Nat}{a:List AJ}{k:Int->List AJ->Option (List AJ)}:∀(m:Nat) (i:Int) (l:List AJ),Lw n a k m i l=TG a (XZ n) k m i l
 |0,_,_=>rfl
 |m+1,i,l=>by simp only [Lw.eq_2,IZ,Option.bind_some,PZ (n:=n) (a:=a) (k:=k) m]
theorem XI{n:Nat}{a:List AJ}(h:(fun xs=>xs.length<=1048576∧∀x∈xs,Ij x) a)(hn:1048577<=n):TS n a=some a:=by
 rw [TS,Cf h.1 (by omega),Option.bind_some,PZ (n:=n)]
 exact Gx (fun x hx=>fP (h.2 x hx) hn) h.1 hn
theorem TJ{n:Nat}{a b:List Bool}{k:Int->Option Bool}:∀(m:Nat) (i:Int),Lo a b k m i=UK a b ((fun x y=>some (x==y))) (some false) k m i
 |0,_=>rfl
 |m+1,i=>by simp only [Lo.eq_2,Ig,Option.bind_some,bne,TJ (n:=n) (a:=a) (b:=b) (k:=k) m]
theorem Wl{n:Nat}{a:List Bool}(h:(fun xs=>xs.length<=1048576∧∀x∈xs,(fun _=>True) x) a)(hn:1048577<=n):YD n a a=some true:=by
 rw [YD,TJ (n:=n)]
 have:=ED (f:=(fun x y=>some (x==y))) (no:=some false) (k:=fun(i:Int)=>some true) (fun x hx=>by simp) h.1 n 0 (by omega) (by omega)
 simpa using this
theorem gD{n:Nat}{a:AO}(h:HK a)(hn:1048577<=n):SP n a a=some true:=by
 simp [SP]
theorem Sl{n:Nat}{a b:List AO}{k:Int->Option Bool}:∀(m:Nat) (i:Int),Lf n a b k m i=UK a b (SP n) (some false) k m i
 |0,_=>rfl
 |m+1,i=>by simp only [Lf.eq_2,Ig,Option.bind_some,bne,Sl (n:=n) (a:=a) (b:=b) (k:=k) m]
theorem RA{n:Nat}{a:List AO}(h:(fun xs=>xs.length<=1048576∧∀x∈xs,HK x) a)(hn:1048577<=n):Un n a a=some true:=by
 rw [Un,Sl (n:=n)]
 have:=ED (f:=SP n) (no:=some false) (k:=fun(i:Int)=>some true) (fun x hx=>gD (h.2 x hx) hn) h.1 n 0 (by omega) (by omega)
 simpa using this
theorem kX{n:Nat}{a:BL}(h:PI a)(hn:1048577<=n):Ve n a a=some true:=by
 simp [Ve,Wl (h.1) hn,RA (h.2) hn]
theorem Qj{n:Nat}{a b:List Int}{k:Int->Option Bool}:∀(m:Nat) (i:Int),Nl a b k m i=UK a b ((fun x y=>some (x==y))) (some false) k m i
 |0,_=>rfl
 |m+1,i=>by simp only [Nl.eq_2,Ig,Option.bind_some,bne,Qj (n:=n) (a:=a) (b:=b) (k:=k) m]
theorem FE{n:Nat}{a:List Int}(h:(fun xs=>xs.length<=1048576∧∀x∈xs,(fun _=>True) x) a)(hn:1048577<=n):WK n a a=some true:=by
 rw [WK,Qj (n:=n)]
 have:=ED (f:=(fun x y=>some (x==y))) (no:=some false) (k:=fun(i:Int)=>some true) (fun x hx=>by simp) h.1 n 0 (by omega) (by omega)
 simpa using this
theorem xU{n:Nat}{a:BQ}(h:Kk a)(hn:1048577<=n):VR n a a=some true:=by
 simp [VR]
theorem WQ{n:Nat}{a b:List BQ}{k:Int->Option Bool}:∀(m:Nat) (i:Int),Lp n a b k m i=UK a b (VR n) (some false) k m i
 |0,_=>rfl
 |m+1,i=>by simp only [Lp.eq_2,Ig,Option.bind_some,bne,WQ (n:=n) (a:=a) (b:=b) (k:=k) m]
theorem rG{n:Nat}{a:List BQ}(h:(fun xs=>xs.length<=1048576∧∀x∈xs,Kk x) a)(hn:1048577<=n):bM n a a=some true:=by
 rw [bM,WQ (n:=n)]
 have:=ED (f:=VR n) (no:=some false) (k:=fun(i:Int)=>some true) (fun x hx=>xU (h.2 x hx) hn) h.1 n 0 (by omega) (by omega)
 simpa using this
theorem nE{n:Nat}{a:Ab}(h:EF a)(hn:1048577<=n):Uf n a a=some true:=by
 simp [Uf,FE (h.1) hn,FE (h.2.1) hn,FE (h.2.2) hn]
theorem QI{n:Nat}{a b:List Ab}{k:Int->Option Bool}:∀(m:Nat) (i:Int),LO n a b k m i=UK a b (Uf n) (some false) k m i
 |0,_=>rfl
 |m+1,i=>by simp only [LO.eq_2,Ig,Option.bind_some,bne,QI (n:=n) (a:=a) (b:=b) (k:=k) m]
theorem Tz{n:Nat}{a:List Ab}(h:(fun xs=>xs.length<=1048576∧∀x∈xs,EF x) a)(hn:1048577<=n):Xv n a a=some true:=by
 rw [Xv,QI (n:=n)]
 have:=ED (f:=Uf n) (no:=some false) (k:=fun(i:Int)=>some true) (fun x hx=>nE (h.2 x hx) hn) h.1 n 0 (by omega) (by omega)
 simpa using this
theorem AbF{n:Nat}{a:Aq}(h:Kp a)(hn:1048577<=n):Vd n a a=some true:=by
 simp [Vd,Tz (h.2.2.2.2.1) hn,Tz (h.2.2.2.2.2) hn]
theorem WN{n:Nat}{a b:List Aq}{k:Int->Option Bool}:∀(m:Nat) (i:Int),Lx n a b k m i=UK a b (Vd n) (some false) k m i
 |0,_=>rfl
 |m+1,i=>by simp only [Lx.eq_2,Ig,Option.bind_some,bne,WN (n:=n) (a:=a) (b:=b) (k:=k) m]
theorem vW{n:Nat}{a:List Aq}(h:(fun xs=>xs.length<=1048576∧∀x∈xs,Kp x) a)(hn:1048577<=n):dS n a a=some true:=by
 rw [dS,WN (n:=n)]
 have:=ED (f:=Vd n) (no:=some false) (k:=fun(i:Int)=>some true) (fun x hx=>AbF (h.2 x hx) hn) h.1 n 0 (by omega) (by omega)
 simpa using this
theorem wA{n:Nat}{a:Af}(h:FY a)(hn:1048577<=n):VJ n a a=some true:=by
 simp [VJ,rG (h.2.2.1) hn,vW (h.2.2.2.1) hn,FE (h.2.2.2.2.1) hn]
theorem TY{n:Nat}{a b:List Af}{k:Int->Option Bool}:∀(m:Nat) (i:Int),La n a b k m i=UK a b (VJ n) (some false) k m i
 |0,_=>rfl
 |m+1,i=>by simp only [La.eq_2,Ig,Option.bind_some,bne,TY (n:=n) (a:=a) (b:=b) (k:=k) m]
theorem iV{n:Nat}{a:List Af}(h:(fun xs=>xs.length<=1048576∧∀x∈xs,FY x) a)(hn:1048577<=n):ZQ n a a=some true:=by
 rw [ZQ,TY (n:=n)]
 have:=ED (f:=VJ n) (no:=some false) (k:=fun(i:Int)=>some true) (fun x hx=>wA (h.2 x hx) hn) h.1 n 0 (by omega) (by omega)
 simpa using this
theorem XE{n:Nat}{a:Ad}(h:Iy a)(hn:1048577<=n):eA n a a=some true:=by
 simp [eA,iV (h) hn]
theorem Ug{n:Nat}{a:AX}(h:EJ a)(hn:1048577<=n):VI n a a=some true:=by
 simp [VI,FE (h.2.2) hn]
theorem NS{n:Nat}{a b:List AX}{k:Int->Option Bool}:∀(m:Nat) (i:Int),Le n a b k m i=UK a b (VI n) (some false) k m i
 |0,_=>rfl
 |m+1,i=>by simp only [Le.eq_2,Ig,Option.bind_some,bne,NS (n:=n) (a:=a) (b:=b) (k:=k) m]
theorem St{n:Nat}{a:List AX}(h:(fun xs=>xs.length<=1048576∧∀x∈xs,EJ x) a)(hn:1048577<=n):cR n a a=some true:=by
 rw [cR,NS (n:=n)]
 have:=ED (f:=VI n) (no:=some false) (k:=fun(i:Int)=>some true) (fun x hx=>Ug (h.2 x hx) hn) h.1 n 0 (by omega) (by omega)
 simpa using this
theorem Pn{n:Nat}{a b:List ByteArray}{k:Int->Option Bool}:∀(m:Nat) (i:Int),LX a b k m i=UK a b ((fun x y=>some (x.toList==y.toList))) (some false) k m i
 |0,_=>rfl
 |m+1,i=>by simp only [LX.eq_2,Ig,Option.bind_some,bne,Pn (n:=n) (a:=a) (b:=b) (k:=k) m]
theorem YP{n:Nat}{a:List ByteArray}(h:(fun xs=>xs.length<=1048576∧∀x∈xs,(fun s=>s.size<=1048576) x) a)(hn:1048577<=n):aT n a a=some true:=by
 rw [aT,Pn (n:=n)]
 have:=ED (f:=(fun x y=>some (x.toList==y.toList))) (no:=some false) (k:=fun(i:Int)=>some true) (fun x hx=>by simp) h.1 n 0 (by omega) (by omega)
 simpa using this
theorem pP{n:Nat}{a:BN}(h:Hh a)(hn:1048577<=n):VN n a a=some true:=by
 simp [VN]
theorem TW{n:Nat}{a b:List BN}{k:Int->Option Bool}:∀(m:Nat) (i:Int),LN n a b k m i=UK a b (VN n) (some false) k m i
 |0,_=>rfl
 |m+1,i=>by simp only [LN.eq_2,Ig,Option.bind_some,bne,TW (n:=n) (a:=a) (b:=b) (k:=k) m]
theorem jN{n:Nat}{a:List BN}(h:(fun xs=>xs.length<=1048576∧∀x∈xs,Hh x) a)(hn:1048577<=n):Zp n a a=some true:=by
 rw [Zp,TW (n:=n)]
 have:=ED (f:=VN n) (no:=some false) (k:=fun(i:Int)=>some true) (fun x hx=>pP (h.2 x hx) hn) h.1 n 0 (by omega) (by omega)
 simpa using this
theorem bH{n:Nat}{a:AQ}(h:Ld a)(hn:1048577<=n):bY n a a=some true:=by
 simp [bY,St (h.1) hn,YP (h.2.1) hn,jN (h.2.2) hn]
theorem wB{n:Nat}{a:Aw}(h:Hx a)(hn:1048577<=n):UT n a a=some true:=by
 simp [UT,FE (h.1) hn,FE (h.2.1) hn,FE (h.2.2.1) hn,FE (h.2.2.2) hn]
theorem TB{n:Nat}{a b:List Aw}{k:Int->Option Bool}:∀(m:Nat) (i:Int),LU n a b k m i=UK a b (UT n) (some false) k m i
 |0,_=>rfl
 |m+1,i=>by simp only [LU.eq_2,Ig,Option.bind_some,bne,TB (n:=n) (a:=a) (b:=b) (k:=k) m]
theorem iZ{n:Nat}{a:List Aw}(h:(fun xs=>xs.length<=1048576∧∀x∈xs,Hx x) a)(hn:1048577<=n):bT n a a=some true:=by
 rw [bT,TB (n:=n)]
 have:=ED (f:=UT n) (no:=some false) (k:=fun(i:Int)=>some true) (fun x hx=>wB (h.2 x hx) hn) h.1 n 0 (by omega) (by omega)
 simpa using this
theorem lS{n:Nat}{a:AM}(h:IU a)(hn:1048577<=n):Zx n a a=some true:=by
 simp [Zx,XE (h.1) hn,bH (h.2.1) hn,iZ (h.2.2) hn]
theorem fQ{n:Nat}{a:Ap}(h:Lm a)(hn:1048577<=n):aD n a a=some true:=by
 simp [aD,Wl (h.1) hn,RA (h.2.1) hn,RA (h.2.2) hn]
theorem gT{n:Nat}{a:AJ}(h:Ij a)(hn:1048577<=n):Vu n a a=some true:=by
 simp [Vu,gD (h.2) hn]
theorem Pp{n:Nat}{a b:List AJ}{k:Int->Option Bool}:∀(m:Nat) (i:Int),Lj n a b k m i=UK a b (Vu n) (some false) k m i
 |0,_=>rfl
 |m+1,i=>by simp only [Lj.eq_2,Ig,Option.bind_some,bne,Pp (n:=n) (a:=a) (b:=b) (k:=k) m]
theorem Xd{n:Nat}{a:List AJ}(h:(fun xs=>xs.length<=1048576∧∀x∈xs,Ij x) a)(hn:1048577<=n):Zn n a a=some true:=by
 rw [Zn,Pp (n:=n)]
 have:=ED (f:=Vu n) (no:=some false) (k:=fun(i:Int)=>some true) (fun x hx=>gT (h.2 x hx) hn) h.1 n 0 (by omega) (by omega)
 simpa using this
theorem cB{n:Nat}{a:List Int}{k:Int}(h:a.length<=1048576)(h0:0<=k)(hk:k<=1152921504606846976)(hn:1048577<=n):∃r,Ze n a k=some r∧k<=r.1∧r.1<=k+67108864:=by
 have⟨b,h1,h2,h3⟩:=Tq (LM:=fun m k i l=>Je (fun i8 i9 l10=>(some (i8,l10))) m k i l) 1 (fun k x=>(k)) (by omega) (fun m k i l hi hi2 k0 k1=>by
  rw [show k+((1:Nat):Int)=k+1 by omega]
  simp only [Je.eq_2,NQ hi,cond_true,Do hi,LV hi,Option.bind_some,Int.toNat_natCast,List.set_set,Vw hi2,AY (x:=k+1) (by omega) (by omega)]) (fun m k l=>by simp only [Je.eq_2,Nj,cond_false]) h h0 hk n 0 a (by omega) (by omega) z (fun j _ hj=>by omega)
 refine⟨(k+((1:Nat):Int)*a.length,b),by rw [Ze];simpa using h1,by dsimp only;omega,by dsimp only;omega⟩
theorem MT{n:Nat}{k:Int}(h0:0<=k)(hk:k<=4611686018427387904)(hn:1048577<=n):∃t,mR n k=some t:=by
 rw [mR]
 by_cases h:k<=0
 ·rw [decide_eq_true h];exact⟨_,z⟩
 rw [decide_eq_false h,cond_false]
 have:∀(j m:Nat) (k:Int) (t:ByteArray),0<=k->k<(10:Int)^j->k<=4611686018427387904->j<m->t.size+j<=1000->∃r,Mq (fun i5 t6=>(Option.bind (Uw ((ByteArray.mk #[109])) t6) fun t7=>(some t7))) m k t=some r:=by
  intro j
  induction j with
  |zero=>
   intro m k t k0 k1 k2 hm ht
   obtain⟨m,rfl⟩:∃q,m=q+1:=⟨m-1,by omega⟩
   rw [Mq.eq_2,decide_eq_false (by simp at k1;omega),cond_false,Qv (by show 1+t.size<=_;omega)]
   exact⟨_,z⟩
  |succ j ih=>
   intro m k t k0 k1 k2 hm ht
   obtain⟨m,rfl⟩:∃q,m=q+1:=⟨m-1,by omega⟩
   rw [Mq.eq_2]
   by_cases h:k>0
   ·rw [decide_eq_true h,cond_true,Qv (by rw [QS];simp;omega),Option.bind_some]
    have e:wrap .i64 (Int.tdiv k 10)=k/10:=by rw [Int.tdiv_eq_ediv_of_nonneg k0];exact AY (by omega) (by omega)
    rw [e]
    refine ih m (k/10) _ (by omega) ?_ (by omega) (by omega) (by rw [ByteArray.size_append,QS];simp;omega)
    rw [Int.pow_succ]at k1;omega
   ·rw [decide_eq_false h,cond_false,Qv (by show 1+t.size<=_;omega)]
    exact⟨_,z⟩
 exact this 19 n k _ h0 (by omega) hk (by omega) (by decide)
theorem Wk{n:Nat}{a:List Bool}{k:Int}(h:a.length<=1048576)(h0:0<=k)(hk:k<=1152921504606846976)(hn:1048577<=n):∃r,Xp n a k=some r∧k<=r.1∧r.1<=k+67108864∧fX n r.2 k=some r.1:=by
 have⟨b,h1,h2,h3⟩:=Tq (LM:=fun m k i l=>Jp (fun i8 i9 l10=>(some (i8,l10))) m k i l) 1 (fun k x=>(Int.tmod (k) 3==0)) (by omega) (fun m k i l hi hi2 k0 k1=>by
  rw [show k+((1:Nat):Int)=k+1 by omega]
  simp only [Jp.eq_2,NQ hi,cond_true,Do hi,LV hi,Option.bind_some,Int.toNat_natCast,List.set_set,Vw hi2,AY (x:=k+1) (by omega) (by omega)]) (fun m k l=>by simp only [Jp.eq_2,Nj,cond_false]) h h0 hk n 0 a (by omega) (by omega) z (fun j _ hj=>by omega)
 refine⟨(k+((1:Nat):Int)*a.length,b),by rw [Xp];simpa using h1,by dsimp only;omega,by dsimp only;omega,?_⟩
 have:=ZS (LH:=fun m k i=>JV b (fun i5 i6=>(some i5)) m k i) 1 (fun k (x:Bool)=>(Int.tmod (k) 3==0)) (by omega) (fun m k i hi x hx hi2 k0 k1=>by
  rw [show k+((1:Nat):Int)=k+1 by omega]
  simp only [JV.eq_2,NQ hi,cond_true,Do hi,hx,Option.bind_some,bne_self_eq_false,cond_false,Vw hi2,AY (x:=k+1) (by omega) (by omega)]) (fun m k=>by simp only [JV.eq_2,Nj,cond_false]) (by omega) h0 hk h3 n 0 (by omega) (by omega)
 rw [h2]at this
 rw [fX];simpa using this
theorem Rg{n:Nat}{a:List AO}{k:Int}(h:a.length<=1048576)(h0:0<=k)(hk:k<=1152921504606846976)(hn:1048577<=n):∃r,Vg n a k=some r∧k<=r.1∧r.1<=k+67108864∧fH n r.2 k=some r.1:=by
 have⟨b,h1,h2,h3⟩:=Tq (LM:=fun m k i l=>Is (fun i8 i9 l10=>(some (i8,l10))) m k i l) 2 (fun k x=>(AO.mk (k) (k+1))) (by omega) (fun m k i l hi hi2 k0 k1=>by
  rw [show k+((2:Nat):Int)=k+1+1 by omega]
  simp only [Is.eq_2,NQ hi,cond_true,Do hi,LV hi,Option.bind_some,Int.toNat_natCast,List.set_set,Vw hi2,AY (x:=k+1) (by omega) (by omega),AY (x:=k+1+1) (by omega) (by omega)]) (fun m k l=>by simp only [Is.eq_2,Nj,cond_false]) h h0 hk n 0 a (by omega) (by omega) z (fun j _ hj=>by omega)
 refine⟨(k+((2:Nat):Int)*a.length,b),by rw [Vg];simpa using h1,by dsimp only;omega,by dsimp only;omega,?_⟩
 have:=ZS (LH:=fun m k i=>Jl b (fun i5 i6=>(some i5)) m k i) 2 (fun k (x:AO)=>(AO.mk (k) (k+1))) (by omega) (fun m k i hi x hx hi2 k0 k1=>by
  rw [show k+((2:Nat):Int)=k+1+1 by omega]
  simp only [Jl.eq_2,NQ hi,cond_true,Do hi,hx,Option.bind_some,bne_self_eq_false,cond_false,Vw hi2,AY (x:=k+1) (by omega) (by omega),AY (x:=k+1+1) (by omega) (by omega)]) (fun m k=>by simp only [Jl.eq_2,Nj,cond_false]) (by omega) h0 hk h3 n 0 (by omega) (by omega)
 rw [h2]at this
 rw [fH];simpa using this
theorem bN{n:Nat}{a:Ap}{k:Int}(h:Lm a)(h0:0<=k)(hk:k<=1152921000000000000)(hn:1048577<=n):∃r,fY n a k=some r∧k<=r.1∧r.1<=k+201326592:=by
 have⟨r0,e0,l0,u0⟩:=Wk (n:=n) (k:=k) h.1.1 (by omega) (by omega) hn
 have⟨r1,e1,l1,u1⟩:=Rg (n:=n) (k:=r0.1) h.2.1.1 (by omega) (by omega) hn
 have⟨r2,e2,l2,u2⟩:=Rg (n:=n) (k:=r1.1) h.2.2.1 (by omega) (by omega) hn
 refine⟨(r2.1,r0.2,r1.2,r2.2),by rw [fY,e0,Option.bind_some,e1,Option.bind_some,e2,Option.bind_some],by dsimp only;omega,by dsimp only;omega⟩
theorem Xf{n:Nat}{a:List AJ}{k:Int}(h:a.length<=1048576)(h0:0<=k)(hk:k<=1152921504606846976)(hn:1048577<=n):∃r,eZ n a k=some r∧k<=r.1∧r.1<=k+67108864:=by
 have⟨b,h1,h2,h3⟩:=Tq (LM:=fun m k i l=>Jg (fun i8 i9 l10=>(some (i8,l10))) m k i l) 3 (fun k x=>(AJ.mk (k) (AO.mk (k+1) (k+1+1)))) (by omega) (fun m k i l hi hi2 k0 k1=>by
  rw [show k+((3:Nat):Int)=k+1+1+1 by omega]
  simp only [Jg.eq_2,NQ hi,cond_true,Do hi,LV hi,Option.bind_some,Int.toNat_natCast,List.set_set,Vw hi2,AY (x:=k+1) (by omega) (by omega),AY (x:=k+1+1) (by omega) (by omega),AY (x:=k+1+1+1) (by omega) (by omega)]) (fun m k l=>by simp only [Jg.eq_2,Nj,cond_false]) h h0 hk n 0 a (by omega) (by omega) z (fun j _ hj=>by omega)
 refine⟨(k+((3:Nat):Int)*a.length,b),by rw [eZ];simpa using h1,by dsimp only;omega,by dsimp only;omega⟩
theorem mJ{n:Nat}{a:BL}{k:Int}(h:PI a)(h0:0<=k)(hk:k<=1152921000000000000)(hn:1048577<=n):∃r,fR n a k=some r∧k<=r.1∧r.1<=k+134217728∧XQ n (BL.mk r.2.1 r.2.2) k=some r.1:=by
 have⟨r0,e0,l0,u0,g0⟩:=Wk (n:=n) (k:=k) h.1.1 (by omega) (by omega) hn
 have⟨r1,e1,l1,u1,g1⟩:=Rg (n:=n) (k:=r0.1) h.2.1 (by omega) (by omega) hn
 refine⟨(r1.1,r0.2,r1.2),by rw [fR,e0,Option.bind_some,e1,Option.bind_some],by dsimp only;omega,by dsimp only;omega,?_⟩
 rw [XQ]
 simp only [g0,decide_eq_false (show¬r0.1<0 by omega),g1,decide_eq_false (show¬r1.1<0 by omega),Option.bind_some,cond_false]
theorem XK:Rd prog 9 Au (fun s=>s.size<=maxLen):=Rd.str SK
theorem Ii:Rd prog 2 (AI .i64) (Ku .i64):=Rd.int ud2
theorem yF:Rd prog 4 Am (fun _=>True):=Rd.bool sI
theorem uV:Rd prog 282 C_Pin QT:=Rd.map (Rd.struct (fs:=[_,_,_,_]) yA (by kernel_rfl) (GA.cons XK rfl (by kernel_rfl) (GA.cons Ii rfl (by kernel_rfl) (GA.cons Ii rfl (by kernel_rfl) (GA.one yF rfl (by kernel_rfl)))))) (fun(x:BQ)=>(x.Name,x.Dir,x.Cap,x.Clock)) (fun p=>(⟨p.1,p.2.1,p.2.2.1,p.2.2.2⟩:BQ)) (fun _=>rfl)
theorem tZ:Rd prog 191 (Cl C_Pin) (fun xs=>xs.length<=9223372036854775807∧∀x∈xs,QT x):=Rd.slice PQ (by kernel_rfl) rfl uV
theorem Na:Rd prog 35 (Cl (AI .i64)) (fun xs=>xs.length<=9223372036854775807∧∀x∈xs,(Ku .i64) x):=Rd.slice Ac (by kernel_rfl) rfl Ii
theorem rF:Rd prog 330 C_Table Jt:=Rd.map (Rd.struct (fs:=[_,_,_]) AbD (by kernel_rfl) (GA.cons Na rfl (by kernel_rfl) (GA.cons Na rfl (by kernel_rfl) (GA.one Na rfl (by kernel_rfl))))) (fun(x:Ab)=>(x.Slews,x.Loads,x.Values)) (fun p=>(⟨p.1,p.2.1,p.2.2⟩:Ab)) (fun _=>rfl)
theorem aN:Rd prog 284 (Cl C_Table) (fun xs=>xs.length<=9223372036854775807∧∀x∈xs,Jt x):=Rd.slice Pk (by kernel_rfl) rfl rF
theorem tF:Rd prog 286 C_Arc QU:=Rd.map (Rd.struct (fs:=[_,_,_,_,_,_]) AaQ (by kernel_rfl) (GA.cons Ii rfl (by kernel_rfl) (GA.cons Ii rfl (by kernel_rfl) (GA.cons Ii rfl (by kernel_rfl) (GA.cons Ii rfl (by kernel_rfl) (GA.cons aN rfl (by kernel_rfl) (GA.one aN rfl (by kernel_rfl)))))))) (fun(x:Aq)=>(x.Kind,x.From,x.To,x.Sense,x.Delay,x.Slew)) (fun p=>(⟨p.1,p.2.1,p.2.2.1,p.2.2.2.1,p.2.2.2.2.1,p.2.2.2.2.2⟩:Aq)) (fun _=>rfl)
theorem pU:Rd prog 192 (Cl C_Arc) (fun xs=>xs.length<=9223372036854775807∧∀x∈xs,QU x):=Rd.slice PO (by kernel_rfl) rfl tF
theorem uN:Rd prog 194 C_Cell Nx:=Rd.map (Rd.struct (fs:=[_,_,_,_,_,_,_]) yG (by kernel_rfl) (GA.cons XK rfl (by kernel_rfl) (GA.cons Ii rfl (by kernel_rfl) (GA.cons tZ rfl (by kernel_rfl) (GA.cons pU rfl (by kernel_rfl) (GA.cons Na rfl (by kernel_rfl) (GA.cons Ii rfl (by kernel_rfl) (GA.one Ii rfl (by kernel_rfl))))))))) (fun(x:Af)=>(x.Name,x.Kind,x.Pins,x.Arcs,x.Truth,x.Leak,x.Energy)) (fun p=>(⟨p.1,p.2.1,p.2.2.1,p.2.2.2.1,p.2.2.2.2.1,p.2.2.2.2.2.1,p.2.2.2.2.2.2⟩:Af)) (fun _=>rfl)
theorem AdE:Rd prog 22 (Cl C_Cell) (fun xs=>xs.length<=9223372036854775807∧∀x∈xs,Nx x):=Rd.slice UR (by kernel_rfl) rfl uN
theorem AcJ:Rd prog 24 Np MA:=Rd.map (Rd.struct (fs:=[_]) AkC (by kernel_rfl) (GA.one AdE rfl (by kernel_rfl))) (fun(x:Ad)=>x.Cells) (fun p=>(⟨p⟩:Ad)) (fun _=>rfl)
theorem pR:Rd prog 196 C_Instance GK:=Rd.map (Rd.struct (fs:=[_,_,_]) AaR (by kernel_rfl) (GA.cons XK rfl (by kernel_rfl) (GA.cons Ii rfl (by kernel_rfl) (GA.one Na rfl (by kernel_rfl))))) (fun(x:AX)=>(x.Name,x.Cell,x.Nets)) (fun p=>(⟨p.1,p.2.1,p.2.2⟩:AX)) (fun _=>rfl)
theorem yC:Rd prog 25 (Cl C_Instance) (fun xs=>xs.length<=9223372036854775807∧∀x∈xs,GK x):=Rd.slice Vl (by kernel_rfl) rfl pR
theorem xJ:Rd prog 26 (Cl Au) (fun xs=>xs.length<=9223372036854775807∧∀x∈xs,(fun s=>s.size<=maxLen) x):=Rd.slice DV (by kernel_rfl) rfl XK
theorem tG:Rd prog 199 C_Port OG:=Rd.map (Rd.struct (fs:=[_,_,_]) AaK (by kernel_rfl) (GA.cons XK rfl (by kernel_rfl) (GA.cons Ii rfl (by kernel_rfl) (GA.one Ii rfl (by kernel_rfl))))) (fun(x:BN)=>(x.Name,x.Dir,x.Net)) (fun p=>(⟨p.1,p.2.1,p.2.2⟩:BN)) (fun _=>rfl)
theorem xQ:Rd prog 27 (Cl C_Port) (fun xs=>xs.length<=9223372036854775807∧∀x∈xs,OG x):=Rd.slice Vt (by kernel_rfl) rfl tG
theorem AcU:Rd prog 29 Ph NU:=Rd.map (Rd.struct (fs:=[_,_,_]) AkH (by kernel_rfl) (GA.cons yC rfl (by kernel_rfl) (GA.cons xJ rfl (by kernel_rfl) (GA.one xQ rfl (by kernel_rfl))))) (fun(x:AQ)=>(x.Instances,x.Nets,x.Ports)) (fun p=>(⟨p.1,p.2.1,p.2.2⟩:AQ)) (fun _=>rfl)
theorem pW:Rd prog 128 C_Wire OC:=Rd.map (Rd.struct (fs:=[_,_,_,_]) xS (by kernel_rfl) (GA.cons Na rfl (by kernel_rfl) (GA.cons Na rfl (by kernel_rfl) (GA.cons Na rfl (by kernel_rfl) (GA.one Na rfl (by kernel_rfl)))))) (fun(x:Aw)=>(x.Parent,x.Res,x.Cap,x.Sink)) (fun p=>(⟨p.1,p.2.1,p.2.2.1,p.2.2.2⟩:Aw)) (fun _=>rfl)
theorem AbY:Rd prog 30 (Cl C_Wire) (fun xs=>xs.length<=9223372036854775807∧∀x∈xs,OC x):=Rd.slice Uc (by kernel_rfl) rfl pW
theorem AlW:Rd prog 32 C_Block Oj:=Rd.map (Rd.struct (fs:=[_,_,_]) AhF (by kernel_rfl) (GA.cons AcJ rfl (by kernel_rfl) (GA.cons AcU rfl (by kernel_rfl) (GA.one AbY rfl (by kernel_rfl))))) (fun(x:AM)=>(x.Library,x.Design,x.Wires)) (fun p=>(⟨p.1,p.2.1,p.2.2⟩:AM)) (fun _=>rfl)
theorem AlV:Rd prog 34 C_Corner Pq:=Rd.map (Rd.struct (fs:=[_,_,_,_,_]) AiH (by kernel_rfl) (GA.cons XK rfl (by kernel_rfl) (GA.cons Ii rfl (by kernel_rfl) (GA.cons Ii rfl (by kernel_rfl) (GA.cons Ii rfl (by kernel_rfl) (GA.one Ii rfl (by kernel_rfl))))))) (fun(x:Ak)=>(x.Name,x.CellEarly,x.CellLate,x.WireEarly,x.WireLate)) (fun p=>(⟨p.1,p.2.1,p.2.2.1,p.2.2.2.1,p.2.2.2.2⟩:Ak)) (fun _=>rfl)
theorem yD:Rd prog 36 (Cl Am) (fun xs=>xs.length<=9223372036854775807∧∀x∈xs,(fun _=>True) x):=Rd.slice Da (by kernel_rfl) rfl yF
theorem fM:Rd prog 104 C_Span Nu:=Rd.map (Rd.struct (fs:=[_,_]) AcH (by kernel_rfl) (GA.cons Ii rfl (by kernel_rfl) (GA.one Ii rfl (by kernel_rfl)))) (fun(x:AO)=>(x.Early,x.Late)) (fun p=>(⟨p.1,p.2⟩:AO)) (fun _=>rfl)
theorem pF:Rd prog 37 (Cl C_Span) (fun xs=>xs.length<=9223372036854775807∧∀x∈xs,Nu x):=Rd.slice aJ (by kernel_rfl) rfl fM
theorem AlZ:Rd prog 39 C_Timing Ou:=Rd.map (Rd.struct (fs:=[_,_,_]) AfK (by kernel_rfl) (GA.cons yD rfl (by kernel_rfl) (GA.cons pF rfl (by kernel_rfl) (GA.one pF rfl (by kernel_rfl))))) (fun(x:Ap)=>(x.Reached,x.Arrival,x.Slew)) (fun p=>(⟨p.1,p.2.1,p.2.2⟩:Ap)) (fun _=>rfl)
theorem vR:Rd prog 106 C_Target NL:=Rd.map (Rd.struct (fs:=[_,_]) yQ (by kernel_rfl) (GA.cons Ii rfl (by kernel_rfl) (GA.one fM rfl (by kernel_rfl)))) (fun(x:AJ)=>(x.Node,x.Required)) (fun p=>(⟨p.1,p.2⟩:AJ)) (fun _=>rfl)
theorem AlY:Rd prog 40 (Cl C_Target) (fun xs=>xs.length<=9223372036854775807∧∀x∈xs,NL x):=Rd.slice gX (by kernel_rfl) rfl vR
end Go.Proofs.YtaijnchdfgojiabGreatDoor
