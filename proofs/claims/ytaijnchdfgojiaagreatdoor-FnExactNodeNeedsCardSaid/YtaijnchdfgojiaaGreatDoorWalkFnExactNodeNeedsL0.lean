/- The walks: every function that FnExactNodeNeeds reaches computes the plain function that is typed beside it; no condition. -/
import Derived.Test.YtaijnchdfgojiaaGreatDoorWalkFnExactNodeNeedsB0
set_option linter.all false
set_option maxRecDepth 20000
set_option maxHeartbeats 40000000
namespace Go.Proofs.YtaijnchdfgojiaaGreatDoor
open Go Go.RowKit Go.Eng Go.Proofs.Tryz
open Go.IntKind (wrap)
variable {n H:Nat} {w:World}
def WL(n:Nat)(a0:List Int)(a1:Int):Option Int:=cond (decide (wrap .i64 (a1-((a0.length:Int)))<0)) (some (-1)) (some (wrap .i64 (a1-((a0.length:Int)))))
theorem jB{c:List Int}{d e:Int}{f:Value}(a:WL n c d=some e)(h:H<=w.heap.size)(g:AP (AH .i64) w H c f):
 Calls prog 104 [f,.i d].toArray w (Ak (.i e) w):=by
 have b:=AD.refl w;unfold WL at a;refine AB func104 z ntmps104 (Rc 9 (Yl z (CJ z Ab (g.oj b)) (Ro 11 (Wt a b ?_))));intro a;exact ID a b
def Vp(n:Nat)(a0:BR)(a1:Int):Option Int:=cond (decide (wrap .i64 (a1-((a0.Name.size:Int)))<0)) (some (-1)) (some (wrap .i64 (a1-((a0.Name.size:Int)))))
theorem AfI{a:BR}{d e:Int}(b:Vp n a d=some e):
 Calls prog 182 [.agg #[.string a.Name,.i a.Dir,.i a.Cap,.bool a.Clock],.i d].toArray w (Ak (.i e) w):=by
 unfold Vp at b;refine AB func182 z ntmps182 (Rc 2 (Ef z (AF z z) ?_));rintro _ g ⟨h,rfl,i,H,c,f⟩;have j:=c.size;refine Ro 6 (Fl SE Dn f (Yl z (Em z Sr z) (Ro 11 (Wt b c ?_))));intro b;exact ID b c
def IS(n:Nat)(a0:List BR)(k0:Int->Int->Option Int):Nat->Int->Int->Option Int
 |0,_,_=>none
 |m+1,c,b=>cond (decide (b<(a0.length:Int))) ((AG a0 b).bind fun d=>(Vp n d c).bind fun a=>cond (decide (a<0)) (some (-1)) (IS n a0 k0 m a (wrap .i64 (b+1)))) (k0 c b)
def Zr(n:Nat)(a0:List BR)(a1:Int):Option Int:=cond (decide (wrap .i64 (a1-((a0.length:Int)))<0)) (some (-1)) (IS n a0 (fun a b=>some a) n (wrap .i64 (a1-((a0.length:Int)))) 0)
theorem AbC{g:List BR}{j k:Int}{l:Value}(a:Zr n g j=some k)(u:H<=w.heap.size)(m:AP C_Pin w H g l):
 Calls prog 145 [l,.i j].toArray w (Ak (.i k) w):=by
 have o:=AD.refl w;unfold Zr at a;refine AB func145 z ntmps145 (Rc 9 (Yl z (CJ z Oi (m.oj o)) (Ro 11 (Wt a o ?_))));intro a;refine Rc 9 (WC.loopD (fun c h wl=>∃d e:Int,Kn 27 [(0,l),(1,.i d),(5,.i e)] h∧AD w wl∧IS n g (fun d e=>(some d)) c d e=some k) n ?_ ?_)
 ·intro h f;exact⟨(wrap .i64 (j-((g.length:Int)))),0,f.sub z,AD.refl _,a⟩
 ·rintro c h v ⟨d,e,f,b,a⟩;refine CB f ?_;rcases c with _|c;exact CA a;rw [IS.eq_2]at a;have x:=b.size;refine Rc 5 (Yl z (CJ z Oi (m.oj b)) (Ro 3 (Wf a b ?_)));intro a;refine Rc 8 (Ix a (m.oj b) Oi Pr ?_);rintro i y a _ ⟨A,B,C,rfl,D,p,q⟩;obtain rfl:=Bm p;refine Yl z (CI (us:=[.string i.Name,.i i.Dir,.i i.Cap,.bool i.Clock]) z bL q Pr) (Ro 1 ?_);refine Cs a b pY (fun _=>AfI) ?_;rintro r a E s ⟨t,F⟩;refine Ro 9 (Wt a t ?_);intro a;refine Rc 9 ?_;intro h f;exact⟨c,nr,r,(wrap .i64 (e+1)),f.sub z,(AD.trans b s),a⟩
def WA(n:Nat)(a0:Aa)(a1:Int):Option Int:=(WL n a0.Slews a1).bind fun c=>cond (decide (c<0)) (some (-1)) ((WL n a0.Loads c).bind fun b=>cond (decide (b<0)) (some (-1)) ((WL n a0.Values b).bind fun a=>cond (decide (a<0)) (some (-1)) (some a)))
theorem AfP{d:Aa}{h i:Int}{j k l:Value}(a:WA n d h=some i)(t:H<=w.heap.size)(o:AP (AH .i64) w H d.Slews j)(p:AP (AH .i64) w H d.Loads k)(q:AP (AH .i64) w H d.Values l):
 Calls prog 228 [.agg #[j,k,l],.i h].toArray w (Ak (.i i) w):=by
 unfold WA at a;refine AB func228 z ntmps228 (Rc 2 (Ef z (AF z z) ?_));rintro _ u ⟨v,rfl,x,y,e,b⟩;have A:=e.size;refine Ro 5 (Fl Ry Ah b (Ro 1 ?_));refine Cs a e It (fun _ c=>(jB c (by omega) (o.oj e):)) ?_;rintro B a C r ⟨f,D⟩;have b:=b.ext r;refine Ro 10 (Wt a f ?_);intro a;refine Rc 4 (Fl Rh Ah b (Ro 1 ?_));refine Cs a f It (fun _ c=>(jB c (by omega) (p.oj f):)) ?_;rintro E a F s ⟨g,G⟩;have b:=b.ext s;refine Ro 10 (Wt a g ?_);intro a;refine Rc 4 (Fl Qx Ah b (Ro 1 ?_));refine Cs a g It (fun _ c=>(jB c (by omega) (q.oj g):)) ?_;rintro I a J K ⟨m,L⟩;refine Ro 10 (Wt a m ?_);intro a;exact ID a m
def IA(n:Nat)(a0:List Aa)(k0:Int->Int->Option Int):Nat->Int->Int->Option Int
 |0,_,_=>none
 |m+1,c,b=>cond (decide (b<(a0.length:Int))) ((AG a0 b).bind fun d=>(WA n d c).bind fun a=>cond (decide (a<0)) (some (-1)) (IA n a0 k0 m a (wrap .i64 (b+1)))) (k0 c b)
def WH(n:Nat)(a0:List Aa)(a1:Int):Option Int:=cond (decide (wrap .i64 (a1-((a0.length:Int)))<0)) (some (-1)) (IA n a0 (fun a b=>some a) n (wrap .i64 (a1-((a0.length:Int)))) 0)
theorem wB{g:List Aa}{i j:Int}{k:Value}(a:WH n g i=some j)(C:H<=w.heap.size)(l:AP C_Table w H g k):
 Calls prog 212 [k,.i i].toArray w (Ak (.i j) w):=by
 have m:=AD.refl w;unfold WH at a;refine AB func212 z ntmps212 (Rc 9 (Yl z (CJ z Nz (l.oj m)) (Ro 11 (Wt a m ?_))));intro a;refine Rc 9 (WC.loopD (fun c h wl=>∃d e:Int,Kn 27 [(0,k),(1,.i d),(5,.i e)] h∧AD w wl∧IA n g (fun d e=>(some d)) c d e=some j) n ?_ ?_)
 ·intro h f;exact⟨(wrap .i64 (i-((g.length:Int)))),0,f.sub z,AD.refl _,a⟩
 ·rintro c h D ⟨d,e,f,b,a⟩;refine CB f ?_;rcases c with _|c;exact CA a;rw [IA.eq_2]at a;have E:=b.size;refine Rc 5 (Yl z (CJ z Nz (l.oj b)) (Ro 3 (Wf a b ?_)));intro a;refine Rc 8 (Ix a (l.oj b) Nz QV ?_);rintro F G a _ ⟨I,J,K,rfl,L,o,p⟩;obtain⟨q,r,s,rfl,t,u,v⟩:=Ca o;refine Yl z (CI (us:=[q,r,s]) z ZK p QV) (Ro 1 ?_);refine Cs a b pU (fun _ x=>(AfP x (by omega) t u v:)) ?_;rintro y a M A ⟨B,N⟩;refine Ro 9 (Wt a B ?_);intro a;refine Rc 9 ?_;intro h f;exact⟨c,nr,y,(wrap .i64 (e+1)),f.sub z,(AD.trans b A),a⟩
def Vz(n:Nat)(a0:Ap)(a1:Int):Option Int:=(WH n a0.Delay a1).bind fun b=>cond (decide (b<0)) (some (-1)) ((WH n a0.Slew b).bind fun a=>cond (decide (a<0)) (some (-1)) (some a))
theorem AbG{b:Ap}{g h:Int}{i j:Value}(a:Vz n b g=some h)(p:H<=w.heap.size)(l:AP C_Table w H b.Delay i)(m:AP C_Table w H b.Slew j):
 Calls prog 183 [.agg #[.i b.Kind,.i b.From,.i b.To,.i b.Sense,i,j],.i g].toArray w (Ak (.i h) w):=by
 unfold Vz at a;refine AB func183 z ntmps183 (Rc 2 (Ef z (AF z z) ?_));rintro _ q ⟨r,rfl,s,t,d,c⟩;have u:=d.size;refine Ro 5 (Fl SZ QI c (Ro 1 ?_));refine Cs a d dI (fun _ e=>(wB e (by omega) (l.oj d):)) ?_;rintro v a x o ⟨f,y⟩;have c:=c.ext o;refine Ro 10 (Wt a f ?_);intro a;refine Rc 4 (Fl Rq QI c (Ro 1 ?_));refine Cs a f dI (fun _ e=>(wB e (by omega) (m.oj f):)) ?_;rintro A a B C ⟨k,D⟩;refine Ro 10 (Wt a k ?_);intro a;exact ID a k
def IJ(n:Nat)(a0:List Ap)(k0:Int->Int->Option Int):Nat->Int->Int->Option Int
 |0,_,_=>none
 |m+1,c,b=>cond (decide (b<(a0.length:Int))) ((AG a0 b).bind fun d=>(Vz n d c).bind fun a=>cond (decide (a<0)) (some (-1)) (IJ n a0 k0 m a (wrap .i64 (b+1)))) (k0 c b)
def ZB(n:Nat)(a0:List Ap)(a1:Int):Option Int:=cond (decide (wrap .i64 (a1-((a0.length:Int)))<0)) (some (-1)) (IJ n a0 (fun a b=>some a) n (wrap .i64 (a1-((a0.length:Int)))) 0)
theorem AaW{g:List Ap}{j k:Int}{l:Value}(a:ZB n g j=some k)(B:H<=w.heap.size)(m:AP C_Arc w H g l):
 Calls prog 146 [l,.i j].toArray w (Ak (.i k) w):=by
 have o:=AD.refl w;unfold ZB at a;refine AB func146 z ntmps146 (Rc 9 (Yl z (CJ z Nd (m.oj o)) (Ro 11 (Wt a o ?_))));intro a;refine Rc 9 (WC.loopD (fun c h wl=>∃d e:Int,Kn 27 [(0,l),(1,.i d),(5,.i e)] h∧AD w wl∧IJ n g (fun d e=>(some d)) c d e=some k) n ?_ ?_)
 ·intro h f;exact⟨(wrap .i64 (j-((g.length:Int)))),0,f.sub z,AD.refl _,a⟩
 ·rintro c h C ⟨d,e,f,b,a⟩;refine CB f ?_;rcases c with _|c;exact CA a;rw [IJ.eq_2]at a;have D:=b.size;refine Rc 5 (Yl z (CJ z Nd (m.oj b)) (Ro 3 (Wf a b ?_)));intro a;refine Rc 8 (Ix a (m.oj b) Nd Pi ?_);rintro i E a _ ⟨F,G,I,rfl,J,p,q⟩;obtain⟨r,s,rfl,t,u⟩:=Bl p;refine Yl z (CI (us:=[.i i.Kind,.i i.From,.i i.To,.i i.Sense,r,s]) z aL q Pi) (Ro 1 ?_);refine Cs a b nE (fun _ v=>(AbG v (by omega) t u:)) ?_;rintro x a K y ⟨A,L⟩;refine Ro 9 (Wt a A ?_);intro a;refine Rc 9 ?_;intro h f;exact⟨c,nr,x,(wrap .i64 (e+1)),f.sub z,(AD.trans b y),a⟩
def Vf(n:Nat)(a0:Af)(a1:Int):Option Int:=cond (decide (wrap .i64 (a1-((a0.Name.size:Int)))<0)) (some (-1)) ((Zr n a0.Pins (wrap .i64 (a1-((a0.Name.size:Int))))).bind fun c=>cond (decide (c<0)) (some (-1)) ((ZB n a0.Arcs c).bind fun b=>cond (decide (b<0)) (some (-1)) ((WL n a0.Truth b).bind fun a=>cond (decide (a<0)) (some (-1)) (some a))))
theorem AcX{b:Af}{h i:Int}{j k l:Value}(a:Vf n b h=some i)(t:H<=w.heap.size)(o:AP C_Pin w H b.Pins j)(p:AP C_Arc w H b.Arcs k)(q:AP (AH .i64) w H b.Truth l):
 Calls prog 101 [.agg #[.string b.Name,.i b.Kind,j,k,l,.i b.Leak,.i b.Energy],.i h].toArray w (Ak (.i i) w):=by
 unfold Vf at a;refine AB func101 z ntmps101 (Rc 2 (Ef z (AF z z) ?_));rintro _ u ⟨v,rfl,x,y,e,c⟩;have A:=e.size;refine Ro 6 (Fl RZ Dn c (Yl z (Em z Sr z) (Ro 11 (Wt a e ?_))));intro a;refine Rc 4 (Fl So YK c (Ro 1 ?_));refine Cs a e pV (fun _ d=>(AbC d (by omega) (o.oj e):)) ?_;rintro B a C r ⟨f,D⟩;have c:=c.ext r;refine Ro 10 (Wt a f ?_);intro a;refine Rc 4 (Fl Rg XJ c (Ro 1 ?_));refine Cs a f pX (fun _ d=>(AaW d (by omega) (p.oj f):)) ?_;rintro E a F s ⟨g,G⟩;have c:=c.ext s;refine Ro 10 (Wt a g ?_);intro a;refine Rc 4 (Fl SN Ah c (Ro 1 ?_));refine Cs a g It (fun _ d=>(jB d (by omega) (q.oj g):)) ?_;rintro I a J K ⟨m,L⟩;refine Ro 10 (Wt a m ?_);intro a;exact ID a m
def Ii(n:Nat)(a0:List Af)(k0:Int->Int->Option Int):Nat->Int->Int->Option Int
 |0,_,_=>none
 |m+1,c,b=>cond (decide (b<(a0.length:Int))) ((AG a0 b).bind fun d=>(Vf n d c).bind fun a=>cond (decide (a<0)) (some (-1)) (Ii n a0 k0 m a (wrap .i64 (b+1)))) (k0 c b)
def ZW(n:Nat)(a0:List Af)(a1:Int):Option Int:=cond (decide (wrap .i64 (a1-((a0.length:Int)))<0)) (some (-1)) (Ii n a0 (fun a b=>some a) n (wrap .i64 (a1-((a0.length:Int)))) 0)
theorem AdJ{g:List Af}{j k:Int}{l:Value}(a:ZW n g j=some k)(D:H<=w.heap.size)(m:AP C_Cell w H g l):
 Calls prog 53 [l,.i j].toArray w (Ak (.i k) w):=by
 have o:=AD.refl w;unfold ZW at a;refine AB func53 z ntmps53 (Rc 9 (Yl z (CJ z TD (m.oj o)) (Ro 11 (Wt a o ?_))));intro a;refine Rc 9 (WC.loopD (fun c h wl=>∃d e:Int,Kn 27 [(0,l),(1,.i d),(5,.i e)] h∧AD w wl∧Ii n g (fun d e=>(some d)) c d e=some k) n ?_ ?_)
 ·intro h f;exact⟨(wrap .i64 (j-((g.length:Int)))),0,f.sub z,AD.refl _,a⟩
 ·rintro c h E ⟨d,e,f,b,a⟩;refine CB f ?_;rcases c with _|c;exact CA a;rw [Ii.eq_2]at a;have F:=b.size;refine Rc 5 (Yl z (CJ z TD (m.oj b)) (Ro 3 (Wf a b ?_)));intro a;refine Rc 8 (Ix a (m.oj b) TD Pk ?_);rintro i G a _ ⟨I,J,K,rfl,L,p,q⟩;obtain⟨r,s,t,rfl,u,v,x⟩:=Bo p;refine Yl z (CI (us:=[.string i.Name,.i i.Kind,r,s,t,.i i.Leak,.i i.Energy]) z cE q Pk) (Ro 1 ?_);refine Cs a b oZ (fun _ y=>(AcX y (by omega) u v x:)) ?_;rintro A a M B ⟨C,N⟩;refine Ro 9 (Wt a C ?_);intro a;refine Rc 9 ?_;intro h f;exact⟨c,nr,A,(wrap .i64 (e+1)),f.sub z,(AD.trans b B),a⟩
def bO(n:Nat)(a0:Ad)(a1:Int):Option Int:=(ZW n a0.Cells a1).bind fun a=>cond (decide (a<0)) (some (-1)) (some a)
theorem AbI{c:Ad}{d e:Int}{f:Value}(a:bO n c d=some e)(k:H<=w.heap.size)(h:AP C_Cell w H c.Cells f):
 Calls prog 23 [.agg #[f],.i d].toArray w (Ak (.i e) w):=by
 unfold bO at a;refine AB func23 z ntmps23 (Rc 2 (Ef z (AF z z) ?_));rintro _ l ⟨m,rfl,o,p,b,i⟩;have q:=b.size;refine Ro 5 (Fl VK jX i (Ro 1 ?_));refine Cs a b wR (fun _ j=>(AdJ j (by omega) (h.oj b):)) ?_;rintro r a s t ⟨g,u⟩;refine Ro 10 (Wt a g ?_);intro a;exact ID a g
def Ve(n:Nat)(a0:AV)(a1:Int):Option Int:=cond (decide (wrap .i64 (a1-((a0.Name.size:Int)))<0)) (some (-1)) ((WL n a0.Nets (wrap .i64 (a1-((a0.Name.size:Int))))).bind fun a=>cond (decide (a<0)) (some (-1)) (some a))
theorem AeX{b:AV}{d e:Int}{f:Value}(a:Ve n b d=some e)(k:H<=w.heap.size)(i:AP (AH .i64) w H b.Nets f):
 Calls prog 102 [.agg #[.string b.Name,.i b.Cell,f],.i d].toArray w (Ak (.i e) w):=by
 unfold Ve at a;refine AB func102 z ntmps102 (Rc 2 (Ef z (AF z z) ?_));rintro _ l ⟨m,rfl,o,p,c,g⟩;have q:=c.size;refine Ro 6 (Fl Qv Dn g (Yl z (Em z Sr z) (Ro 11 (Wt a c ?_))));intro a;refine Rc 4 (Fl Si Ah g (Ro 1 ?_));refine Cs a c It (fun _ j=>(jB j (by omega) (i.oj c):)) ?_;rintro r a s t ⟨h,u⟩;refine Ro 10 (Wt a h ?_);intro a;exact ID a h
def IP(n:Nat)(a0:List AV)(k0:Int->Int->Option Int):Nat->Int->Int->Option Int
 |0,_,_=>none
 |m+1,c,b=>cond (decide (b<(a0.length:Int))) ((AG a0 b).bind fun d=>(Ve n d c).bind fun a=>cond (decide (a<0)) (some (-1)) (IP n a0 k0 m a (wrap .i64 (b+1)))) (k0 c b)
def Xd(n:Nat)(a0:List AV)(a1:Int):Option Int:=cond (decide (wrap .i64 (a1-((a0.length:Int)))<0)) (some (-1)) (IP n a0 (fun a b=>some a) n (wrap .i64 (a1-((a0.length:Int)))) 0)
theorem AgT{g:List AV}{i j:Int}{k:Value}(a:Xd n g i=some j)(y:H<=w.heap.size)(l:AP C_Instance w H g k):
 Calls prog 54 [k,.i i].toArray w (Ak (.i j) w):=by
 have m:=AD.refl w;unfold Xd at a;refine AB func54 z ntmps54 (Rc 9 (Yl z (CJ z UC (l.oj m)) (Ro 11 (Wt a m ?_))));intro a;refine Rc 9 (WC.loopD (fun c h wl=>∃d e:Int,Kn 27 [(0,k),(1,.i d),(5,.i e)] h∧AD w wl∧IP n g (fun d e=>(some d)) c d e=some j) n ?_ ?_)
 ·intro h f;exact⟨(wrap .i64 (i-((g.length:Int)))),0,f.sub z,AD.refl _,a⟩
 ·rintro c h A ⟨d,e,f,b,a⟩;refine CB f ?_;rcases c with _|c;exact CA a;rw [IP.eq_2]at a;have B:=b.size;refine Rc 5 (Yl z (CJ z UC (l.oj b)) (Ro 3 (Wf a b ?_)));intro a;refine Rc 8 (Ix a (l.oj b) UC Qo ?_);rintro o C a _ ⟨D,E,F,rfl,G,p,q⟩;obtain⟨r,rfl,s⟩:=BJ p;refine Yl z (CI (us:=[.string o.Name,.i o.Cell,r]) z Zv q Qo) (Ro 1 ?_);refine Cs a b pH (fun _ t=>(AeX t (by omega) s:)) ?_;rintro u a I v ⟨x,J⟩;refine Ro 9 (Wt a x ?_);intro a;refine Rc 9 ?_;intro h f;exact⟨c,nr,u,(wrap .i64 (e+1)),f.sub z,(AD.trans b v),a⟩
def Ij(a0:List ByteArray)(k0:Int->Int->Option Int):Nat->Int->Int->Option Int
 |0,_,_=>none
 |m+1,b,a=>cond (decide (a<(a0.length:Int))) ((AG a0 a).bind fun c=>cond (decide (wrap .i64 (b-((c.size:Int)))<0)) (some (-1)) (Ij a0 k0 m (wrap .i64 (b-((c.size:Int)))) (wrap .i64 (a+1)))) (k0 b a)
def cS(n:Nat)(a0:List ByteArray)(a1:Int):Option Int:=cond (decide (wrap .i64 (a1-((a0.length:Int)))<0)) (some (-1)) (Ij a0 (fun a b=>some a) n (wrap .i64 (a1-((a0.length:Int)))) 0)
theorem AeJ{g:List ByteArray}{i j:Int}{k:Value}(a:cS n g i=some j)(p:H<=w.heap.size)(l:AP At w H g k):
 Calls prog 55 [k,.i i].toArray w (Ak (.i j) w):=by
 have m:=AD.refl w;unfold cS at a;refine AB func55 z ntmps55 (Rc 9 (Yl z (CJ z DN (l.oj m)) (Ro 11 (Wt a m ?_))));intro a;refine Rc 9 (WC.loopD (fun d h wl=>∃b e:Int,Kn 28 [(0,k),(1,.i b),(5,.i e)] h∧AD w wl∧Ij g (fun b e=>(some b)) d b e=some j) n ?_ ?_)
 ·intro h f;exact⟨(wrap .i64 (i-((g.length:Int)))),0,f.sub z,AD.refl _,a⟩
 ·rintro d h q ⟨b,e,f,c,a⟩;refine CB f ?_;rcases d with _|d;exact CA a;rw [Ij.eq_2]at a;have r:=c.size;refine Rc 5 (Yl z (CJ z DN (l.oj c)) (Ro 3 (Wf a c ?_)));intro a;refine Rc 9 (Il a (l.oj c) DN Jq Dn ?_);rintro o a _;refine Yl z (Em z Sr z) (Ro 10 (Wt a c ?_));intro a;refine Rc 9 ?_;intro h f;exact⟨d,nr,(wrap .i64 (b-((o.size:Int)))),(wrap .i64 (e+1)),f.sub z,c,a⟩
def Vl(n:Nat)(a0:BS)(a1:Int):Option Int:=cond (decide (wrap .i64 (a1-((a0.Name.size:Int)))<0)) (some (-1)) (some (wrap .i64 (a1-((a0.Name.size:Int)))))
theorem zG{a:BS}{d e:Int}(b:Vl n a d=some e):
 Calls prog 103 [.agg #[.string a.Name,.i a.Dir,.i a.Net],.i d].toArray w (Ak (.i e) w):=by
 unfold Vl at b;refine AB func103 z ntmps103 (Rc 2 (Ef z (AF z z) ?_));rintro _ g ⟨h,rfl,i,H,c,f⟩;have j:=c.size;refine Ro 6 (Fl RL Dn f (Yl z (Em z Sr z) (Ro 11 (Wt b c ?_))));intro b;exact ID b c
def Iz(n:Nat)(a0:List BS)(k0:Int->Int->Option Int):Nat->Int->Int->Option Int
 |0,_,_=>none
 |m+1,c,b=>cond (decide (b<(a0.length:Int))) ((AG a0 b).bind fun d=>(Vl n d c).bind fun a=>cond (decide (a<0)) (some (-1)) (Iz n a0 k0 m a (wrap .i64 (b+1)))) (k0 c b)
def cA(n:Nat)(a0:List BS)(a1:Int):Option Int:=cond (decide (wrap .i64 (a1-((a0.length:Int)))<0)) (some (-1)) (Iz n a0 (fun a b=>some a) n (wrap .i64 (a1-((a0.length:Int)))) 0)
theorem AgI{g:List BS}{i j:Int}{k:Value}(a:cA n g i=some j)(u:H<=w.heap.size)(l:AP C_Port w H g k):
 Calls prog 56 [k,.i i].toArray w (Ak (.i j) w):=by
 have o:=AD.refl w;unfold cA at a;refine AB func56 z ntmps56 (Rc 9 (Yl z (CJ z UR (l.oj o)) (Ro 11 (Wt a o ?_))));intro a;refine Rc 9 (WC.loopD (fun c h wl=>∃d e:Int,Kn 27 [(0,k),(1,.i d),(5,.i e)] h∧AD w wl∧Iz n g (fun d e=>(some d)) c d e=some j) n ?_ ?_)
 ·intro h f;exact⟨(wrap .i64 (i-((g.length:Int)))),0,f.sub z,AD.refl _,a⟩
 ·rintro c h v ⟨d,e,f,b,a⟩;refine CB f ?_;rcases c with _|c;exact CA a;rw [Iz.eq_2]at a;have x:=b.size;refine Rc 5 (Yl z (CJ z UR (l.oj b)) (Ro 3 (Wf a b ?_)));intro a;refine Rc 8 (Ix a (l.oj b) UR QW ?_);rintro m y a _ ⟨A,B,C,rfl,D,p,q⟩;obtain rfl:=CE p;refine Yl z (CI (us:=[.string m.Name,.i m.Dir,.i m.Net]) z ZY q QW) (Ro 1 ?_);refine Cs a b pJ (fun _=>zG) ?_;rintro r a E s ⟨t,F⟩;refine Ro 9 (Wt a t ?_);intro a;refine Rc 9 ?_;intro h f;exact⟨c,nr,r,(wrap .i64 (e+1)),f.sub z,(AD.trans b s),a⟩
def Yi(n:Nat)(a0:AQ)(a1:Int):Option Int:=(Xd n a0.Instances a1).bind fun c=>cond (decide (c<0)) (some (-1)) ((cS n a0.Nets c).bind fun b=>cond (decide (b<0)) (some (-1)) ((cA n a0.Ports b).bind fun a=>cond (decide (a<0)) (some (-1)) (some a)))
theorem AeG{d:AQ}{h i:Int}{j k l:Value}(a:Yi n d h=some i)(t:H<=w.heap.size)(o:AP C_Instance w H d.Instances j)(p:AP At w H d.Nets k)(q:AP C_Port w H d.Ports l):
 Calls prog 24 [.agg #[j,k,l],.i h].toArray w (Ak (.i i) w):=by
 unfold Yi at a;refine AB func24 z ntmps24 (Rc 2 (Ef z (AF z z) ?_));rintro _ u ⟨v,rfl,x,y,e,b⟩;have A:=e.size;refine Ro 5 (Fl VH jS b (Ro 1 ?_));refine Cs a e tF (fun _ c=>(AgT c (by omega) (o.oj e):)) ?_;rintro B a C r ⟨f,D⟩;have b:=b.ext r;refine Ro 10 (Wt a f ?_);intro a;refine Rc 4 (Fl VD Gj b (Ro 1 ?_));refine Cs a f uL (fun _ c=>(AeJ c (by omega) (p.oj f):)) ?_;rintro E a F s ⟨g,G⟩;have b:=b.ext s;refine Ro 10 (Wt a g ?_);intro a;refine Rc 4 (Fl VJ lB b (Ro 1 ?_));refine Cs a g uN (fun _ c=>(AgI c (by omega) (q.oj g):)) ?_;rintro I a J K ⟨m,L⟩;refine Ro 10 (Wt a m ?_);intro a;exact ID a m
def Vh(n:Nat)(a0:Av)(a1:Int):Option Int:=(WL n a0.Parent a1).bind fun a=>cond (decide (a<0)) (some (-1)) ((WL n a0.Res a).bind fun d=>cond (decide (d<0)) (some (-1)) ((WL n a0.Cap d).bind fun c=>cond (decide (c<0)) (some (-1)) ((WL n a0.Sink c).bind fun b=>cond (decide (b<0)) (some (-1)) (some b))))
theorem AaV{d:Av}{i j:Int}{k l m o:Value}(a:Vh n d i=some j)(y:H<=w.heap.size)(q:AP (AH .i64) w H d.Parent k)(r:AP (AH .i64) w H d.Res l)(s:AP (AH .i64) w H d.Cap m)(t:AP (AH .i64) w H d.Sink o):
 Calls prog 57 [.agg #[k,l,m,o],.i i].toArray w (Ak (.i j) w):=by
 unfold Vh at a;refine AB func57 z ntmps57 (Rc 2 (Ef z (AF z z) ?_));rintro _ A ⟨B,rfl,C,D,e,b⟩;have E:=e.size;refine Ro 5 (Fl RF Ah b (Ro 1 ?_));refine Cs a e It (fun _ c=>(jB c (by omega) (q.oj e):)) ?_;rintro F a G u ⟨f,I⟩;have b:=b.ext u;refine Ro 10 (Wt a f ?_);intro a;refine Rc 4 (Fl RN Ah b (Ro 1 ?_));refine Cs a f It (fun _ c=>(jB c (by omega) (r.oj f):)) ?_;rintro J a K v ⟨g,L⟩;have b:=b.ext v;refine Ro 10 (Wt a g ?_);intro a;refine Rc 4 (Fl RD Ah b (Ro 1 ?_));refine Cs a g It (fun _ c=>(jB c (by omega) (s.oj g):)) ?_;rintro M a N x ⟨h,O⟩;have b:=b.ext x;refine Ro 10 (Wt a h ?_);intro a;refine Rc 4 (Fl SV Ah b (Ro 1 ?_));refine Cs a h It (fun _ c=>(jB c (by omega) (t.oj h):)) ?_;rintro P a Q R ⟨p,S⟩;refine Ro 10 (Wt a p ?_);intro a;exact ID a p
def JE(n:Nat)(a0:List Av)(k0:Int->Int->Option Int):Nat->Int->Int->Option Int
 |0,_,_=>none
 |m+1,c,b=>cond (decide (b<(a0.length:Int))) ((AG a0 b).bind fun d=>(Vh n d c).bind fun a=>cond (decide (a<0)) (some (-1)) (JE n a0 k0 m a (wrap .i64 (b+1)))) (k0 c b)
def XA(n:Nat)(a0:List Av)(a1:Int):Option Int:=cond (decide (wrap .i64 (a1-((a0.length:Int)))<0)) (some (-1)) (JE n a0 (fun a b=>some a) n (wrap .i64 (a1-((a0.length:Int)))) 0)
theorem zW{g:List Av}{i j:Int}{k:Value}(a:XA n g i=some j)(E:H<=w.heap.size)(l:AP C_Wire w H g k):
 Calls prog 25 [k,.i i].toArray w (Ak (.i j) w):=by
 have m:=AD.refl w;unfold XA at a;refine AB func25 z ntmps25 (Rc 9 (Yl z (CJ z Te (l.oj m)) (Ro 11 (Wt a m ?_))));intro a;refine Rc 9 (WC.loopD (fun c h wl=>∃d e:Int,Kn 27 [(0,k),(1,.i d),(5,.i e)] h∧AD w wl∧JE n g (fun d e=>(some d)) c d e=some j) n ?_ ?_)
 ·intro h f;exact⟨(wrap .i64 (i-((g.length:Int)))),0,f.sub z,AD.refl _,a⟩
 ·rintro c h F ⟨d,e,f,b,a⟩;refine CB f ?_;rcases c with _|c;exact CA a;rw [JE.eq_2]at a;have G:=b.size;refine Rc 5 (Yl z (CJ z Te (l.oj b)) (Ro 3 (Wf a b ?_)));intro a;refine Rc 8 (Ix a (l.oj b) Te Pn ?_);rintro I J a _ ⟨K,L,M,rfl,N,o,p⟩;obtain⟨q,r,s,t,rfl,u,v,x,y⟩:=CD o;refine Yl z (CI (us:=[q,r,s,t]) z YF p Pn) (Ro 1 ?_);refine Cs a b vH (fun _ A=>(AaV A (by omega) u v x y:)) ?_;rintro B a O C ⟨D,P⟩;refine Ro 9 (Wt a D ?_);intro a;refine Rc 9 ?_;intro h f;exact⟨c,nr,B,(wrap .i64 (e+1)),f.sub z,(AD.trans b C),a⟩
def cO(n:Nat)(a0:AO)(a1:Int):Option Int:=(bO n a0.Library a1).bind fun b=>cond (decide (b<0)) (some (-1)) ((Yi n a0.Design b).bind fun c=>cond (decide (c<0)) (some (-1)) ((XA n a0.Wires c).bind fun a=>cond (decide (a<0)) (some (-1)) (some a)))
theorem AfX{c:AO}{l m:Int}{f g h i o:Value}(a:cO n c l=some m)(y:H<=w.heap.size)(q:AP C_Cell w H c.Library.Cells f)(r:AP C_Instance w H c.Design.Instances g)(s:AP At w H c.Design.Nets h)(t:AP C_Port w H c.Design.Ports i)(u:AP C_Wire w H c.Wires o):
 Calls prog 4 [.agg #[f,g,h,i,o],.i l].toArray w (Ak (.i m) w):=by
 unfold cO at a;refine AB func4 z ntmps4 (Rc 2 (Ef z (AF z z) ?_));rintro _ A ⟨B,rfl,C,D,j,b⟩;have E:=j.size;refine Ro 5 (Yl z (BQ z VB) (Yl z (CI (us:=[f]) z kF (AR.sub (Ae.cells b) 0 1:AR _ _ _ [f]) jT) (Ro 1 ?_)));refine Cs a j vQ (fun _ d=>(AbI d (by omega) (q.oj j):)) ?_;rintro F a G v ⟨e,I⟩;have b:=b.ext v;refine Ro 10 (Wt a e ?_);intro a;refine Rc 4 (Yl z (BQ z VR) (Yl z (CI (us:=[g,h,i]) z kA (AR.sub (Ae.cells b) 1 3:AR _ _ _ [g,h,i]) kX) (Ro 1 ?_)));refine Cs a e sV (fun _ d=>(AeG d (by omega) (r.oj e) (s.oj e) (t.oj e):)) ?_;rintro J a K x ⟨k,L⟩;have b:=b.ext x;refine Ro 10 (Wt a k ?_);intro a;refine Rc 4 (Fl Uo kZ b (Ro 1 ?_));refine Cs a k vP (fun _ d=>(zW d (by omega) (u.oj k):)) ?_;rintro M a N O ⟨p,P⟩;refine Ro 10 (Wt a p ?_);intro a;exact ID a p
def bP(n:Nat)(a0:Aj)(a1:Int):Option Int:=cond (decide (wrap .i64 (a1-((a0.Name.size:Int)))<0)) (some (-1)) (some (wrap .i64 (a1-((a0.Name.size:Int)))))
theorem AeH{a:Aj}{d e:Int}(b:bP n a d=some e):
 Calls prog 5 [.agg #[.string a.Name,.i a.CellEarly,.i a.CellLate,.i a.WireEarly,.i a.WireLate],.i d].toArray w (Ak (.i e) w):=by
 unfold bP at b;refine AB func5 z ntmps5 (Rc 2 (Ef z (AF z z) ?_));rintro _ g ⟨h,rfl,i,H,c,f⟩;have j:=c.size;refine Ro 6 (Fl Uk Dn f (Yl z (Em z Sr z) (Ro 11 (Wt b c ?_))));intro b;exact ID b c
def Vb(n:Nat)(a0:List Bool)(a1:Int):Option Int:=cond (decide (wrap .i64 (a1-((a0.length:Int)))<0)) (some (-1)) (some (wrap .i64 (a1-((a0.length:Int)))))
theorem tE{c:List Bool}{d e:Int}{f:Value}(a:Vb n c d=some e)(h:H<=w.heap.size)(g:AP Aq w H c f):
 Calls prog 26 [f,.i d].toArray w (Ak (.i e) w):=by
 have b:=AD.refl w;unfold Vb at a;refine AB func26 z ntmps26 (Rc 9 (Yl z (CJ z Db (g.oj b)) (Ro 11 (Wt a b ?_))));intro a;exact ID a b
def TI(n:Nat)(a0:List AX)(a1:Int):Option Int:=cond (decide (wrap .i64 (a1-((a0.length:Int)))<0)) (some (-1)) (some (wrap .i64 (a1-((a0.length:Int)))))
theorem nK{c:List AX}{d e:Int}{f:Value}(a:TI n c d=some e)(h:H<=w.heap.size)(g:AP C_Span w H c f):
 Calls prog 27 [f,.i d].toArray w (Ak (.i e) w):=by
 have b:=AD.refl w;unfold TI at a;refine AB func27 z ntmps27 (Rc 9 (Yl z (CJ z aR (g.oj b)) (Ro 11 (Wt a b ?_))));intro a;exact ID a b
def bJ(n:Nat)(a0:Am)(a1:Int):Option Int:=(Vb n a0.Reached a1).bind fun c=>cond (decide (c<0)) (some (-1)) ((TI n a0.Arrival c).bind fun b=>cond (decide (b<0)) (some (-1)) ((TI n a0.Slew b).bind fun a=>cond (decide (a<0)) (some (-1)) (some a)))
theorem AfK{d:Am}{h i:Int}{j k l:Value}(a:bJ n d h=some i)(t:H<=w.heap.size)(o:AP Aq w H d.Reached j)(p:AP C_Span w H d.Arrival k)(q:AP C_Span w H d.Slew l):
 Calls prog 6 [.agg #[j,k,l],.i h].toArray w (Ak (.i i) w):=by
 unfold bJ at a;refine AB func6 z ntmps6 (Rc 2 (Ef z (AF z z) ?_));rintro _ u ⟨v,rfl,x,y,e,b⟩;have A:=e.size;refine Ro 5 (Fl Uy Dj b (Ro 1 ?_));refine Cs a e kR (fun _ c=>(tE c (by omega) (o.oj e):)) ?_;rintro B a C r ⟨f,D⟩;have b:=b.ext r;refine Ro 10 (Wt a f ?_);intro a;refine Rc 4 (Fl Ul PV b (Ro 1 ?_));refine Cs a f bV (fun _ c=>(nK c (by omega) (p.oj f):)) ?_;rintro E a F s ⟨g,G⟩;have b:=b.ext s;refine Ro 10 (Wt a g ?_);intro a;refine Rc 4 (Fl VL PV b (Ro 1 ?_));refine Cs a g bV (fun _ c=>(nK c (by omega) (q.oj g):)) ?_;rintro I a J K ⟨m,L⟩;refine Ro 10 (Wt a m ?_);intro a;exact ID a m
def Xk(n:Nat)(a0:List AJ)(a1:Int):Option Int:=cond (decide (wrap .i64 (a1-((a0.length:Int)))<0)) (some (-1)) (some (wrap .i64 (a1-((a0.length:Int)))))
theorem AeO{c:List AJ}{d e:Int}{f:Value}(a:Xk n c d=some e)(h:H<=w.heap.size)(g:AP C_Target w H c f):
 Calls prog 7 [f,.i d].toArray w (Ak (.i e) w):=by
 have b:=AD.refl w;unfold Xk at a;refine AB func7 z ntmps7 (Rc 9 (Yl z (CJ z cY (g.oj b)) (Ro 11 (Wt a b ?_))));intro a;exact ID a b
def dJ(n:Nat)(a0:BA)(a1:Int):Option Int:=(Vb n a0.Bound a1).bind fun b=>cond (decide (b<0)) (some (-1)) ((TI n a0.Required b).bind fun a=>cond (decide (a<0)) (some (-1)) (some a))
theorem AeW{c:BA}{g h:Int}{i j:Value}(a:dJ n c g=some h)(p:H<=w.heap.size)(l:AP Aq w H c.Bound i)(m:AP C_Span w H c.Required j):
 Calls prog 8 [.agg #[i,j],.i g].toArray w (Ak (.i h) w):=by
 unfold dJ at a;refine AB func8 z ntmps8 (Rc 2 (Ef z (AF z z) ?_));rintro _ q ⟨r,rfl,s,t,d,b⟩;have u:=d.size;refine Ro 5 (Fl Ur Dj b (Ro 1 ?_));refine Cs a d kR (fun _ e=>(tE e (by omega) (l.oj d):)) ?_;rintro v a x o ⟨f,y⟩;have b:=b.ext o;refine Ro 10 (Wt a f ?_);intro a;refine Rc 4 (Fl Ut PV b (Ro 1 ?_));refine Cs a f bV (fun _ e=>(nK e (by omega) (m.oj f):)) ?_;rintro A a B C ⟨k,D⟩;refine Ro 10 (Wt a k ?_);intro a;exact ID a k
def Mx(a0:List Int)(k0:Int->(List Int)->Option (List Int)):Nat->Int->(List Int)->Option (List Int)
 |0,_,_=>none
 |m+1,a,b=>cond (decide (a<(a0.length:Int))) ((AG a0 a).bind fun c=>(AG b a).bind fun d=>Mx a0 k0 m (wrap .i64 (a+1)) ((b.set (a).toNat c))) (k0 a b)
def St(n:Nat)(a0:List Int):Option (List Int):=(ME ((a0.length:Int)) 8).bind fun b=>Mx a0 (fun c a=>some a) n 0 (List.replicate b 0)
theorem UT{h i:List Int}{j:Value}(a:St n h=some i)(O:H<=w.heap.size)(k:AP (AH .i64) w H h j):
 Calls prog 12 [j].toArray w (Di fun v o=>∃p,v=p∧AA (AH .i64) o w.heap.size (Iv 0 0) 2 i p∧AD w o):=by
 have x:=AD.refl w;unfold St at a;refine AB func12 z ntmps12 (Rc 8 (Yl z (CJ z Ab (k.oj x)) ?_));have⟨y,A,a⟩:=AM a;refine Ef z (CM (c:=(AH .i64)) (z:=0) z Ab Dl z z z A z z (fun _=>z)) ?_;rintro q B ⟨C,r,P,Q,s,D⟩;have R:=s.size;have E:=BP r;clear r;refine Ro 10 (WC.loopD (fun d f wl=>∃(b:Int) (c:List Int),Kn 22 [(0,j),(3,q),(4,.i b)] f∧AD w wl∧B.heap.size<=wl.heap.size∧AA (AH .i64) wl (C) (Iv 0 0) 2 c q∧Mx h (fun b c=>(some c)) d b c=some i) n ?_ ?_)
 ·intro f e;exact⟨0,(List.replicate y 0),e.sub z,s,nr,D,a⟩
 ·rintro d f S ⟨b,c,e,g,T,l,a⟩;refine CB e ?_;rcases d with _|d;exact CA a;rw [Mx.eq_2]at a;refine Rc 5 (Yl z (CJ z Ab (k.oj g)) (Ro 3 (Wc z a ?_ ?_)))
  ·intro a;refine Rc 9 (Il a (k.oj g) Ab As AI ?_);rintro m a _;refine Io a l Ab As ?_;rintro U F a _ ⟨V,W,rfl,t,u,G⟩;have I:=u;obtain rfl:=u;refine Ef z (Al (c:=(AH .i64)) (us':=[.i m]) (y':=m) 0 _ z z z l t F z As z I G z z z (fun J K=>absurd K.2 (Nat.not_lt_zero J))) ?_;rintro _ X ⟨L,M⟩;have⟨N,Y⟩:=Eu g L (by have:=E _ t;omega);refine Ro 9 ?_;intro f e;exact⟨d,nr,(wrap .i64 (b+1)),((c.set (b).toNat m)),e.sub z,N,(by omega),M,a⟩
  ·intro a;cases BK a;exact Rc 12 (Ne z z ⟨_,z,_,z,AA.base l,g⟩)
def Xi(n:Nat)(a0:BR):Option BR:=some a0
theorem AcE{d e:BR}(hF:Xi n d=some e):
 Calls prog 191 [.agg #[.string d.Name,.i d.Dir,.i d.Cap,.bool d.Clock]].toArray w (Di fun m f=>m= .agg #[.string e.Name,.i e.Dir,.i e.Cap,.bool e.Clock]∧AD w f):=by
 unfold Xi at hF;refine AB func191 z ntmps191 (Rc 2 (Ef z (AF z z) ?_));rintro _ f ⟨D,rfl,E,F,g,a⟩;have G:=g.size;refine Ef z (AE z Og) ?_;rintro _ I ⟨J,rfl,K,L,h,b⟩;have⟨o,M⟩:=Et g h;have a:=a.ext h;refine Ro 4 (Ef z (AE z Og) ?_);rintro _ N ⟨O,rfl,P,Q,i,c⟩;have⟨p,R⟩:=Et o i;have⟨a,b⟩:=Be a b i;refine Ro 4 (Fl SE Dn a (Yl z (BQ z Gm) (Ef z (BV z c Jq z z) ?_)));rintro _ S ⟨j,q⟩;have⟨r,T⟩:=Eu p j;have⟨a,b⟩:=Hn a b j;have c:=q;refine Ro 4 (Fl Xl AI a (Yl z (BQ z Gh) (Ef z (BV z c As z z) ?_)));rintro _ U ⟨H,s⟩;have⟨t,V⟩:=Eu r H;have⟨a,b⟩:=Hn a b H;have c:=s;refine Ro 4 (Fl Zx AI a (Yl z (BQ z FW) (Ef z (BV z c As z z) ?_)));rintro _ W ⟨k,u⟩;have⟨v,X⟩:=Eu t k;have⟨a,b⟩:=Hn a b k;have c:=u;refine Ro 4 (Fl dS De a (Yl z (BQ z DE) (Ef z (BV z c Ej z z) ?_)));rintro _ Y ⟨l,x⟩;have⟨y,Z⟩:=Eu v l;have b:=b.upd l (by omega);have c:=x;refine Ro 4 (Yl z (BW z Jc c CU) (Ef z (BV z b CU z z) ?_));rintro _ a0 ⟨A,B⟩;have⟨C,b0⟩:=Eu y A;have b:=B;obtain rfl:=(Sy hF);exact Ro 3 (Su b Jc CU ⟨_,z,z,C⟩)
def Kv(n:Nat)(a0:List BR)(k0:Int->(List BR)->Option (List BR)):Nat->Int->(List BR)->Option (List BR)
 |0,_,_=>none
 |m+1,a,b=>cond (decide (a<(a0.length:Int))) ((AG a0 a).bind fun d=>(Xi n d).bind fun c=>(AG b a).bind fun e=>Kv n a0 k0 m (wrap .i64 (a+1)) ((b.set (a).toNat c))) (k0 a b)
def XY(n:Nat)(a0:List BR):Option (List BR):=(ME ((a0.length:Int)) 40).bind fun b=>Kv n a0 (fun c a=>some a) n 0 (List.replicate b ((BR.mk ByteArray.empty 0 0 false)))
theorem AbX{i j:List BR}{k:Value}(hF:XY n i=some j)(hH:H<=w.heap.size)(l:AP C_Pin w H i k):
 Calls prog 155 [k].toArray w (Di fun x o=>∃p,x=p∧AA C_Pin o w.heap.size (Iv 0 0) 280 j p∧AD w o):=by
 have y:=AD.refl w;unfold XY at hF;refine AB func155 z ntmps155 (Rc 8 (Yl z (CJ z Oi (l.oj y)) ?_));have⟨A,B,hF⟩:=AM hF;refine Ef z (CM (c:=C_Pin) (z:=(BR.mk ByteArray.empty 0 0 false)) z DM sD z z z B z z (fun _=>Rp)) ?_;rintro q C ⟨D,r,R,S,s,E⟩;have T:=s.size;have F:=BP r;clear r;refine Ro 10 (WC.loopD (fun d f wl=>∃(a:Int) (b:List BR),Kn 23 [(0,k),(3,q),(4,.i a)] f∧AD w wl∧C.heap.size<=wl.heap.size∧AA C_Pin wl (D) (Iv 0 0) 280 b q∧Kv n i (fun a b=>(some b)) d a b=some j) n ?_ ?_)
 ·intro f hK;exact⟨0,(List.replicate A ((BR.mk ByteArray.empty 0 0 false))),hK.sub z,s,nr,E,hF⟩
 ·rintro d f U ⟨a,b,hK,g,V,e,hF⟩;refine CB hK ?_;rcases d with _|d;exact CA hF;rw [Kv.eq_2]at hF;refine Rc 5 (Yl z (CJ z Oi (l.oj g)) (Ro 3 (Wc z hF ?_ ?_)))
  ·intro hF;refine Rc 9 (Ix hF (l.oj g) Oi Pr ?_);rintro h W hF _ ⟨X,Y,Z,rfl,a0,G,I⟩;obtain rfl:=Bm G;refine Yl z (CI (us:=[.string h.Name,.i h.Dir,.i h.Cap,.bool h.Clock]) z bL I Pr) ?_;refine Cg hF oH (fun _ m=>(AcE m:)) ?_;rintro c hF _ b0 ⟨rfl,t⟩;have⟨J,c0⟩:=Et g t;have e:=e.ext t;refine Io hF e DM CU ?_;rintro d0 K hF _ ⟨e0,f0,rfl,u,v,L⟩;have M:=v;obtain rfl:=Bm v;refine Ef z (Al (c:=C_Pin) (us':=[.string c.Name,.i c.Dir,.i c.Cap,.bool c.Clock]) (y':=c) 0 _ z z z e u K z CU z M L z z Rp (fun N m=>absurd m.2 (Nat.not_lt_zero N))) ?_;rintro _ g0 ⟨O,P⟩;have⟨Q,h0⟩:=Eu J O (by have:=F _ u;omega);refine Ro 9 ?_;intro f hK;exact⟨d,nr,(wrap .i64 (a+1)),((b.set (a).toNat c)),hK.sub z,Q,(by omega),P,hF⟩
  ·intro hF;cases BK hF;exact Rc 12 (Ne z z ⟨_,z,_,z,AA.base e,g⟩)
def Wg(n:Nat)(a0:Aa):Option Aa:=(St n a0.Slews).bind fun b=>(St n a0.Loads).bind fun a=>(St n a0.Values).bind fun c=>some ((Aa.mk b a c))
theorem AaZ{k l:Aa}{s t u:Value}(g:Wg n k=some l)(Z:H<=w.heap.size)(L:AP (AH .i64) w H k.Slews s)(M:AP (AH .i64) w H k.Loads t)(N:AP (AH .i64) w H k.Values u):
 Calls prog 230 [.agg #[s,t,u]].toArray w (Di fun O m=>∃o p q,O= .agg #[o,p,q]∧AA (AH .i64) m w.heap.size (Iv 0 0) 2 l.Slews o∧AA (AH .i64) m w.heap.size (Iv 0 0) 2 l.Loads p∧AA (AH .i64) m w.heap.size (Iv 0 0) 2 l.Values q∧No p o∧No q o∧No q p∧AD w m):=by
 unfold Wg at g;refine AB func230 z ntmps230 (Rc 2 (Ef z (AF z z) ?_));rintro _ a0 ⟨b0,rfl,c0,d0,v,c⟩;have e0:=v.size;refine Ef z (AE z Zs) ?_;rintro _ f0 ⟨g0,rfl,h0,i0,x,a⟩;have⟨P,j0⟩:=Et v x;have c:=c.ext x;refine Ro 4 (Ef z (AE z Zs) ?_);rintro _ k0 ⟨l0,rfl,m0,n0,y,d⟩;have⟨A,o0⟩:=Et P y;have⟨c,a⟩:=Be c a y;refine Ro 4 (Fl Ry Ah c ?_);refine Cg g Gp (fun _ i=>(UT i (by omega) (L.oj A):)) ?_;rintro p0 g q0 r0 ⟨_,rfl,b,B⟩;have⟨Q,s0⟩:=Et A B;have⟨c,a,d⟩:=Cc c a d B;have h:=AA.blk b;refine Yl z (BQ z FJ) (Ef z (BO z z z d GR b.cells b.one z) ?_);rintro _ t0 ⟨C,R⟩;have⟨D,u0⟩:=Eu Q C;have⟨c,a,b⟩:=Ee c a (Az b h) C;have d:=R;refine Ro 4 (Fl Rh Ah c ?_);refine Cg g Gp (fun _ i=>(UT i (by omega) (M.oj D):)) ?_;rintro v0 g w0 x0 ⟨_,rfl,e,E⟩;have⟨S,y0⟩:=Et D E;have⟨c,a,d,b⟩:=DC c a d b E;have j:=AA.blk e;refine Yl z (BQ z EY) (Ef z (BO z z z d GR e.cells e.one z) ?_);rintro _ z0 ⟨F,T⟩;have⟨G,A0⟩:=Eu S F;have⟨c,a,b,e⟩:=NO c a (Az b h) (Az e j) F;have d:=T;refine Ro 4 (Fl Qx Ah c ?_);refine Cg g Gp (fun _ i=>(UT i (by omega) (N.oj G):)) ?_;rintro B0 g C0 D0 ⟨_,rfl,f,I⟩;have⟨U,E0⟩:=Et G I;have⟨a,d,b,e⟩:=DC a d b e I;have r:=AA.blk f;refine Yl z (BQ z CY) (Ef z (BO z z z d GR f.cells f.one z) ?_);rintro _ F0 ⟨J,V⟩;have⟨W,G0⟩:=Eu U J;have⟨a,b,e,f⟩:=NO a (Az b h) (Az e j) (Az f r) J;have d:=V;refine Ro 4 (Yl z (BW z GO d DS) (Ef z (BV z a DS (AC b.one (AC e.one (AC f.one BH))) z) ?_));rintro _ H0 ⟨K,X⟩;have⟨Y,I0⟩:=Eu W K;have⟨b,e,f⟩:=Ee (Az b h) (Az e j) (Az f r) K;have a:=X;cases BK g;exact Ro 3 (Su a GO DS ⟨_,z,_,_,_,z,AA.base b,AA.base e,AA.base f,(No.of j h),(No.of r h),(No.of r j),Y⟩)
def Km(n:Nat)(a0:List Aa)(k0:Int->(List Aa)->Option (List Aa)):Nat->Int->(List Aa)->Option (List Aa)
 |0,_,_=>none
 |m+1,a,b=>cond (decide (a<(a0.length:Int))) ((AG a0 a).bind fun c=>(Wg n c).bind fun d=>(AG b a).bind fun e=>Km n a0 k0 m (wrap .i64 (a+1)) ((b.set (a).toNat d))) (k0 a b)
def WT(n:Nat)(a0:List Aa):Option (List Aa):=(ME ((a0.length:Int)) 72).bind fun b=>Km n a0 (fun c a=>some a) n 0 (List.replicate b ((Aa.mk (([]:List Int)) (([]:List Int)) (([]:List Int)))))
theorem xQ{k l:List Aa}{m:Value}(hF:WT n k=some l)(hH:H<=w.heap.size)(o:AP C_Table w H k m):
 Calls prog 216 [m].toArray w (Di fun G p=>∃q,G=q∧AA C_Table p w.heap.size (SX w.heap.size p.heap.size q) 243 l q∧AD w p):=by
 have I:=AD.refl w;unfold WT at hF;refine AB func216 z ntmps216 (Rc 8 (Yl z (CJ z Nz (o.oj I)) ?_));have⟨J,K,hF⟩:=AM hF;refine Ef z (CM (c:=C_Table) (z:=(Aa.mk (([]:List Int)) (([]:List Int)) (([]:List Int)))) z Er pD z z z K z z (fun _=>OK (AK.nil _ _ _) (AK.nil _ _ _) (AK.nil _ _ _))) ?_;rintro r L ⟨A,s,f0,g0,B,t⟩;have h0:=B.size;have t:=AA.toN t s;have g:=BP s;clear s;refine Ro 10 (WC.loopD (fun f h wl=>∃(c:Int) (d:List Aa),Kn 23 [(0,m),(3,r),(4,.i c)] h∧AD w wl∧L.heap.size<=wl.heap.size∧AA C_Table wl (A) (SX (A) wl.heap.size r) 243 d r∧Km n k (fun c d=>(some d)) f c d=some l) n ?_ ?_)
 ·intro h hK;exact⟨0,(List.replicate J ((Aa.mk (([]:List Int)) (([]:List Int)) (([]:List Int))))),hK.sub z,B,nr,(AA.wideN t),hF⟩
 ·rintro f h i0 ⟨c,d,hK,i,j0,j,hF⟩;refine CB hK ?_;rcases f with _|f;exact CA hF;rw [Km.eq_2]at hF;refine Rc 5 (Yl z (CJ z Nz (o.oj i)) (Ro 3 (Wc z hF ?_ ?_)))
  ·intro hF;refine Rc 9 (Ix hF (o.oj i) Nz QV ?_);rintro k0 l0 hF _ ⟨m0,n0,o0,rfl,p0,M,N⟩;obtain⟨O,P,Q,rfl,R,S,T⟩:=Ca M;refine Yl z (CI (us:=[O,P,Q]) z ZK N QV) ?_;refine Cg hF qY (fun _ a=>(AaZ a (by omega) R S T:)) ?_;rintro C hF _ U ⟨V,W,X,rfl,u,v,x,q0,r0,s0,D⟩;have⟨Y,t0⟩:=Et i D;have j:=j.extN D (by omega);have u0:=AA.blk u;have v0:=AA.blk v;have w0:=AA.blk x;have E:=AA.wideN (hi':=U.heap.size) j;refine Io hF E Er DS ?_;rintro x0 Z hF _ ⟨y0,z0,rfl,y,F,a0⟩;have b0:=F;obtain⟨A0,B0,C0,rfl,D0,E0,F0⟩:=Ca F;refine Ef z (Al (c:=C_Table) (us':=[V,W,X]) (y':=C) 0 _ z z z E y Z z DS (AC u.one (AC v.one (AC x.one BH))) b0 a0 z z (OK ((AA.slf u nr nr).mono (fun e a=>⟨by have:=a.1;omega,by have:=a.2;omega,fun b=>by have:=g e b;have:=a.1;have:=a.2;omega⟩) (fun _ _=>z)) ((AA.slf v nr nr).mono (fun e a=>⟨by have:=a.1;omega,by have:=a.2;omega,fun b=>by have:=g e b;have:=a.1;have:=a.2;omega⟩) (fun _ _=>z)) ((AA.slf x nr nr).mono (fun e a=>⟨by have:=a.1;omega,by have:=a.2;omega,fun b=>by have:=g e b;have:=a.1;have:=a.2;omega⟩) (fun _ _=>z))) (fun e a b=>a.2.2 (b▸y))) ?_;rintro _ G0 ⟨c0,d0⟩;have⟨e0,H0⟩:=Eu Y c0 (by have:=g _ y;omega);refine Ro 9 ?_;intro h hK;exact⟨f,nr,(wrap .i64 (c+1)),((d.set (c).toNat C)),hK.sub z,e0,(by omega),(AA.wideN d0),hF⟩
  ·intro hF;cases BK hF;exact Rc 12 (Ne z z ⟨_,z,_,z,AA.baseN (AA.wideN j),i⟩)
def WU(n:Nat)(a0:Ap):Option Ap:=(WT n a0.Delay).bind fun b=>(WT n a0.Slew).bind fun a=>some ((Ap.mk a0.Kind a0.From a0.To a0.Sense b a))
theorem AfA{f g:Ap}{p q:Value}(h:WU n f=some g)(b0:H<=w.heap.size)(I:AP C_Table w H f.Delay p)(J:AP C_Table w H f.Slew q):
 Calls prog 192 [.agg #[.i f.Kind,.i f.From,.i f.To,.i f.Sense,p,q]].toArray w (Di fun K i=>∃j k,K= .agg #[.i g.Kind,.i g.From,.i g.To,.i g.Sense,j,k]∧AA C_Table i w.heap.size (SX w.heap.size i.heap.size j) 243 g.Delay j∧AA C_Table i w.heap.size (SX w.heap.size i.heap.size k) 243 g.Slew k∧No k j∧AD w i):=by
 unfold WU at h;refine AB func192 z ntmps192 (Rc 2 (Ef z (AF z z) ?_));rintro _ c0 ⟨d0,rfl,e0,f0,r,a⟩;have g0:=r.size;refine Ef z (AE z Hz) ?_;rintro _ h0 ⟨i0,rfl,j0,k0,s,b⟩;have⟨L,l0⟩:=Et r s;have a:=a.ext s;refine Ro 4 (Ef z (AE z Hz) ?_);rintro _ m0 ⟨n0,rfl,o0,p0,t,c⟩;have⟨M,q0⟩:=Et L t;have⟨a,b⟩:=Be a b t;refine Ro 4 (Fl dE AI a (Yl z (BQ z Cq) (Ef z (BV z c As z z) ?_)));rintro _ r0 ⟨u,N⟩;have⟨O,s0⟩:=Eu M u;have⟨a,b⟩:=Hn a b u;have c:=N;refine Ro 4 (Fl aU AI a (Yl z (BQ z Cm) (Ef z (BV z c As z z) ?_)));rintro _ t0 ⟨v,P⟩;have⟨Q,u0⟩:=Eu O v;have⟨a,b⟩:=Hn a b v;have c:=P;refine Ro 4 (Fl Xz AI a (Yl z (BQ z Bv) (Ef z (BV z c As z z) ?_)));rintro _ v0 ⟨x,R⟩;have⟨S,w0⟩:=Eu Q x;have⟨a,b⟩:=Hn a b x;have c:=R;refine Ro 4 (Fl Yb AI a (Yl z (BQ z Co) (Ef z (BV z c As z z) ?_)));rintro _ x0 ⟨y,T⟩;have⟨A,y0⟩:=Eu S y;have⟨a,b⟩:=Hn a b y;have c:=T;refine Ro 4 (Fl SZ QI a ?_);refine Cg h YO (fun _ m=>(xQ m (by omega) (I.oj A):)) ?_;rintro z0 h A0 B0 ⟨_,rfl,d,B⟩;have⟨U,C0⟩:=Et A B;have⟨a,b,c⟩:=Cc a b c B;have l:=AA.blk d;refine Yl z (BQ z Dy) (Ef z (BO z z z c Zd (AK.cells (AA.slN d nr nr)) (AK.one (AA.slN d nr nr)) z) ?_);rintro _ D0 ⟨C,V⟩;have⟨D,E0⟩:=Eu U C;have⟨a,b,d⟩:=Ee a b (Az d l) C;have c:=V;refine Ro 4 (Fl Rq QI a ?_);refine Cg h YO (fun _ m=>(xQ m (by omega) (J.oj D):)) ?_;rintro F0 h G0 H0 ⟨_,rfl,e,E⟩;have⟨W,I0⟩:=Et D E;have⟨b,c,d⟩:=Cc b c d E;have o:=AA.blk e;refine Yl z (BQ z Ds) (Ef z (BO z z z c Zd (AK.cells (AA.slN e nr nr)) (AK.one (AA.slN e nr nr)) z) ?_);rintro _ J0 ⟨F,X⟩;have⟨Y,K0⟩:=Eu W F;have⟨b,d,e⟩:=Ee b (Az d l) (Az e o) F;have c:=X;refine Ro 4 (Yl z (BW z EZ c BZ) (Ef z (BV z b BZ (AC z (AC z (AC z (AC z (AC (AK.one (AA.slN d nr nr)) (AC (AK.one (AA.slN e nr nr)) BH)))))) z) ?_));rintro _ L0 ⟨G,Z⟩;have⟨a0,M0⟩:=Eu Y G;have⟨d,e⟩:=Hn (Az d l) (Az e o) G;have b:=Z;cases BK h;exact Ro 3 (Su b EZ BZ ⟨_,z,_,_,z,AA.baseN (AA.wideN d),AA.baseN (AA.wideN e),(No.of o l),a0⟩)
def KT(n:Nat)(a0:List Ap)(k0:Int->(List Ap)->Option (List Ap)):Nat->Int->(List Ap)->Option (List Ap)
 |0,_,_=>none
 |m+1,a,b=>cond (decide (a<(a0.length:Int))) ((AG a0 a).bind fun c=>(WU n c).bind fun d=>(AG b a).bind fun e=>KT n a0 k0 m (wrap .i64 (a+1)) ((b.set (a).toNat d))) (k0 a b)
def Xv(n:Nat)(a0:List Ap):Option (List Ap):=(ME ((a0.length:Int)) 80).bind fun b=>KT n a0 (fun c a=>some a) n 0 (List.replicate b ((Ap.mk 0 0 0 0 (([]:List Aa)) (([]:List Aa)))))
theorem AbZ{l m:List Ap}{o:Value}(hF:Xv n l=some m)(hH:H<=w.heap.size)(p:AP C_Arc w H l o):
 Calls prog 156 [o].toArray w (Di fun G q=>∃r,G=r∧AA C_Arc q w.heap.size (SX w.heap.size q.heap.size r) 151 m r∧AD w q):=by
 have I:=AD.refl w;unfold Xv at hF;refine AB func156 z ntmps156 (Rc 8 (Yl z (CJ z Nd (p.oj I)) ?_));have⟨J,K,hF⟩:=AM hF;refine Ef z (CM (c:=C_Arc) (z:=(Ap.mk 0 0 0 0 (([]:List Aa)) (([]:List Aa)))) z DK qZ z z z K z z (fun _=>RE (AK.nil _ _ _) (AK.nil _ _ _))) ?_;rintro s L ⟨B,t,c0,d0,C,u⟩;have e0:=C.size;have u:=AA.toN u t;have v:=BP t;clear t;refine Ro 10 (WC.loopD (fun e g wl=>∃(b:Int) (c:List Ap),Kn 23 [(0,o),(3,s),(4,.i b)] g∧AD w wl∧L.heap.size<=wl.heap.size∧AA C_Arc wl (B) (SX (B) wl.heap.size s) 151 c s∧KT n l (fun b c=>(some c)) e b c=some m) n ?_ ?_)
 ·intro g hK;exact⟨0,(List.replicate J ((Ap.mk 0 0 0 0 (([]:List Aa)) (([]:List Aa))))),hK.sub z,C,nr,(AA.wideN u),hF⟩
 ·rintro e g f0 ⟨b,c,hK,h,g0,i,hF⟩;refine CB hK ?_;rcases e with _|e;exact CA hF;rw [KT.eq_2]at hF;refine Rc 5 (Yl z (CJ z Nd (p.oj h)) (Ro 3 (Wc z hF ?_ ?_)))
  ·intro hF;refine Rc 9 (Ix hF (p.oj h) Nd Pi ?_);rintro j h0 hF _ ⟨i0,j0,k0,rfl,l0,M,N⟩;obtain⟨O,P,rfl,Q,R⟩:=Bl M;refine Yl z (CI (us:=[.i j.Kind,.i j.From,.i j.To,.i j.Sense,O,P]) z aL N Pi) ?_;refine Cg hF qP (fun _ a=>(AfA a (by omega) Q R:)) ?_;rintro d hF _ S ⟨T,U,rfl,x,y,m0,D⟩;have⟨V,n0⟩:=Et h D;have i:=i.extN D (by omega);have o0:=AA.blk x;have p0:=AA.blk y;have E:=AA.wideN (hi':=S.heap.size) i;refine Io hF E DK BZ ?_;rintro q0 W hF _ ⟨r0,s0,rfl,A,F,X⟩;have Y:=F;obtain⟨t0,u0,rfl,v0,w0⟩:=Bl F;refine Ef z (Al (c:=C_Arc) (us':=[.i d.Kind,.i d.From,.i d.To,.i d.Sense,T,U]) (y':=d) 0 _ z z z E A W z BZ (AC z (AC z (AC z (AC z (AC (AK.one (AA.slN x nr nr)) (AC (AK.one (AA.slN y nr nr)) BH)))))) Y X z z (RE ((AA.slN x nr nr).mono (fun k a=>⟨by have:=a.1;omega,by have:=a.2;omega,fun f=>by have:=v k f;have:=a.1;have:=a.2;omega⟩) (fun _ _=>z)) ((AA.slN y nr nr).mono (fun k a=>⟨by have:=a.1;omega,by have:=a.2;omega,fun f=>by have:=v k f;have:=a.1;have:=a.2;omega⟩) (fun _ _=>z))) (fun k a f=>a.2.2 (f▸A))) ?_;rintro _ x0 ⟨Z,a0⟩;have⟨b0,y0⟩:=Eu V Z (by have:=v _ A;omega);refine Ro 9 ?_;intro g hK;exact⟨e,nr,(wrap .i64 (b+1)),((c.set (b).toNat d)),hK.sub z,b0,(by omega),(AA.wideN a0),hF⟩
  ·intro hF;cases BK hF;exact Rc 12 (Ne z z ⟨_,z,_,z,AA.baseN (AA.wideN i),h⟩)
def WO(n:Nat)(a0:Af):Option Af:=(XY n a0.Pins).bind fun b=>(Xv n a0.Arcs).bind fun a=>(St n a0.Truth).bind fun c=>some ((Af.mk a0.Name a0.Kind b a c a0.Leak a0.Energy))
theorem zN{g h:Af}{s t u:Value}(i:WO n g=some h)(l0:H<=w.heap.size)(P:AP C_Pin w H g.Pins s)(Q:AP C_Arc w H g.Arcs t)(R:AP (AH .i64) w H g.Truth u):
 Calls prog 115 [.agg #[.string g.Name,.i g.Kind,s,t,u,.i g.Leak,.i g.Energy]].toArray w (Di fun S m=>∃q o r,S= .agg #[.string h.Name,.i h.Kind,q,o,r,.i h.Leak,.i h.Energy]∧AA C_Pin m w.heap.size (Iv 0 0) 280 h.Pins q∧AA C_Arc m w.heap.size (SX w.heap.size m.heap.size o) 151 h.Arcs o∧AA (AH .i64) m w.heap.size (Iv 0 0) 2 h.Truth r∧No o q∧No r q∧No r o∧AD w m):=by
 unfold WO at i;refine AB func115 z ntmps115 (Rc 2 (Ef z (AF z z) ?_));rintro _ m0 ⟨n0,rfl,o0,p0,v,a⟩;have q0:=v.size;refine Ef z (AE z Ts) ?_;rintro _ r0 ⟨s0,rfl,t0,u0,x,b⟩;have⟨T,v0⟩:=Et v x;have a:=a.ext x;refine Ro 4 (Ef z (AE z Ts) ?_);rintro _ w0 ⟨x0,rfl,y0,z0,y,c⟩;have⟨U,A0⟩:=Et T y;have⟨a,b⟩:=Be a b y;refine Ro 4 (Fl RZ Dn a (Yl z (BQ z Fz) (Ef z (BV z c Jq z z) ?_)));rintro _ B0 ⟨A,V⟩;have⟨W,C0⟩:=Eu U A;have⟨a,b⟩:=Hn a b A;have c:=V;refine Ro 4 (Fl Xp AI a (Yl z (BQ z KD) (Ef z (BV z c As z z) ?_)));rintro _ D0 ⟨B,X⟩;have⟨C,E0⟩:=Eu W B;have⟨a,b⟩:=Hn a b B;have c:=X;refine Ro 4 (Fl So YK a ?_);refine Cg i mC (fun _ p=>(AbX p (by omega) (P.oj C):)) ?_;rintro F0 i G0 H0 ⟨_,rfl,d,D⟩;have⟨Y,I0⟩:=Et C D;have⟨a,b,c⟩:=Cc a b c D;have j:=AA.blk d;refine Yl z (BQ z Bx) (Ef z (BO z z z c qX d.cells d.one z) ?_);rintro _ J0 ⟨E,Z⟩;have⟨F,K0⟩:=Eu Y E;have⟨a,b,d⟩:=Ee a b (Az d j) E;have c:=Z;refine Ro 4 (Fl Rg XJ a ?_);refine Cg i lL (fun _ p=>(AbZ p (by omega) (Q.oj F):)) ?_;rintro L0 i M0 N0 ⟨_,rfl,e,G⟩;have⟨a0,O0⟩:=Et F G;have⟨a,b,c,d⟩:=DC a b c d G;have k:=AA.blk e;refine Yl z (BQ z CZ) (Ef z (BO z z z c lJ (AK.cells (AA.slN e nr nr)) (AK.one (AA.slN e nr nr)) z) ?_);rintro _ P0 ⟨I,b0⟩;have⟨J,Q0⟩:=Eu a0 I;have⟨a,b,d,e⟩:=NO a b (Az d j) (Az e k) I;have c:=b0;refine Ro 4 (Fl SN Ah a ?_);refine Cg i Gp (fun _ p=>(UT p (by omega) (R.oj J):)) ?_;rintro R0 i S0 T0 ⟨_,rfl,f,K⟩;have⟨c0,U0⟩:=Et J K;have⟨a,b,c,d,e⟩:=GQ a b c d e K;have l:=AA.blk f;refine Yl z (BQ z EJ) (Ef z (BO z z z c GR f.cells f.one z) ?_);rintro _ V0 ⟨L,d0⟩;have⟨e0,W0⟩:=Eu c0 L;have⟨a,b,d,e,f⟩:=QP a b (Az d j) (Az e k) (Az f l) L;have c:=d0;refine Ro 4 (Fl YZ AI a (Yl z (BQ z Jj) (Ef z (BV z c As z z) ?_)));rintro _ X0 ⟨M,f0⟩;have⟨g0,Y0⟩:=Eu e0 M;have⟨a,b,d,e,f⟩:=QP a b (Az d j) (Az e k) (Az f l) M;have c:=f0;refine Ro 4 (Fl ZE AI a (Yl z (BQ z KM) (Ef z (BV z c As z z) ?_)));rintro _ Z0 ⟨N,h0⟩;have⟨i0,a1⟩:=Eu g0 N;have⟨b,d,e,f⟩:=NO b (Az d j) (Az e k) (Az f l) N;have c:=h0;refine Ro 4 (Yl z (BW z DA c Bg) (Ef z (BV z b Bg (AC z (AC z (AC d.one (AC (AK.one (AA.slN e nr nr)) (AC f.one (AC z (AC z BH))))))) z) ?_));rintro _ b1 ⟨O,j0⟩;have⟨k0,c1⟩:=Eu i0 O;have⟨d,e,f⟩:=Ee (Az d j) (Az e k) (Az f l) O;have b:=j0;cases BK i;exact Ro 3 (Su b DA Bg ⟨_,z,_,_,_,z,AA.base d,AA.baseN (AA.wideN e),AA.base f,(No.of k j),(No.of l j),(No.of l k),k0⟩)
def Ku(n:Nat)(a0:List Af)(k0:Int->(List Af)->Option (List Af)):Nat->Int->(List Af)->Option (List Af)
 |0,_,_=>none
 |m+1,a,b=>cond (decide (a<(a0.length:Int))) ((AG a0 a).bind fun c=>(WO n c).bind fun d=>(AG b a).bind fun e=>Ku n a0 k0 m (wrap .i64 (a+1)) ((b.set (a).toNat d))) (k0 a b)
def ZH(n:Nat)(a0:List Af):Option (List Af):=(ME ((a0.length:Int)) 112).bind fun b=>Ku n a0 (fun c a=>some a) n 0 (List.replicate b ((Af.mk ByteArray.empty 0 (([]:List BR)) (([]:List Ap)) (([]:List Int)) 0 0)))
theorem AfZ{m o:List Af}{p:Value}(hF:ZH n m=some o)(hH:H<=w.heap.size)(q:AP C_Cell w H m p):
 Calls prog 73 [p].toArray w (Di fun I r=>∃s,I=s∧AA C_Cell r w.heap.size (SX w.heap.size r.heap.size s) 146 o s∧AD w r):=by
 have J:=AD.refl w;unfold ZH at hF;refine AB func73 z ntmps73 (Rc 8 (Yl z (CJ z TD (q.oj J)) ?_));have⟨K,L,hF⟩:=AM hF;refine Ef z (CM (c:=C_Cell) (z:=(Af.mk ByteArray.empty 0 (([]:List BR)) (([]:List Ap)) (([]:List Int)) 0 0)) z GF oN z z z L z z (fun _=>PW (AK.nil _ _ _) (AK.nil _ _ _) (AK.nil _ _ _))) ?_;rintro t M ⟨C,u,g0,h0,D,v⟩;have i0:=D.size;have v:=AA.toN v u;have h:=BP u;clear u;refine Ro 10 (WC.loopD (fun g i wl=>∃(c:Int) (d:List Af),Kn 23 [(0,p),(3,t),(4,.i c)] i∧AD w wl∧M.heap.size<=wl.heap.size∧AA C_Cell wl (C) (SX (C) wl.heap.size t) 146 d t∧Ku n m (fun c d=>(some d)) g c d=some o) n ?_ ?_)
 ·intro i hK;exact⟨0,(List.replicate K ((Af.mk ByteArray.empty 0 (([]:List BR)) (([]:List Ap)) (([]:List Int)) 0 0))),hK.sub z,D,nr,(AA.wideN v),hF⟩
 ·rintro g i j0 ⟨c,d,hK,j,k0,k,hF⟩;refine CB hK ?_;rcases g with _|g;exact CA hF;rw [Ku.eq_2]at hF;refine Rc 5 (Yl z (CJ z TD (q.oj j)) (Ro 3 (Wc z hF ?_ ?_)))
  ·intro hF;refine Rc 9 (Ix hF (q.oj j) TD Pk ?_);rintro l l0 hF _ ⟨m0,n0,o0,rfl,p0,N,O⟩;obtain⟨P,Q,R,rfl,S,T,U⟩:=Bo N;refine Yl z (CI (us:=[.string l.Name,.i l.Kind,P,Q,R,.i l.Leak,.i l.Energy]) z cE O Pk) ?_;refine Cg hF nW (fun _ a=>(zN a (by omega) S T U:)) ?_;rintro e hF _ V ⟨W,X,Y,rfl,x,y,A,q0,r0,s0,E⟩;have⟨Z,t0⟩:=Et j E;have k:=k.extN E (by omega);have u0:=AA.blk x;have v0:=AA.blk y;have w0:=AA.blk A;have F:=AA.wideN (hi':=V.heap.size) k;refine Io hF F GF Bg ?_;rintro x0 a0 hF _ ⟨y0,z0,rfl,B,G,b0⟩;have c0:=G;obtain⟨A0,B0,C0,rfl,D0,E0,F0⟩:=Bo G;refine Ef z (Al (c:=C_Cell) (us':=[.string e.Name,.i e.Kind,W,X,Y,.i e.Leak,.i e.Energy]) (y':=e) 0 _ z z z F B a0 z Bg (AC z (AC z (AC x.one (AC (AK.one (AA.slN y nr nr)) (AC A.one (AC z (AC z BH))))))) c0 b0 z z (PW ((AA.slf x nr nr).mono (fun f a=>⟨by have:=a.1;omega,by have:=a.2;omega,fun b=>by have:=h f b;have:=a.1;have:=a.2;omega⟩) (fun _ _=>z)) ((AA.slN y nr nr).mono (fun f a=>⟨by have:=a.1;omega,by have:=a.2;omega,fun b=>by have:=h f b;have:=a.1;have:=a.2;omega⟩) (fun _ _=>z)) ((AA.slf A nr nr).mono (fun f a=>⟨by have:=a.1;omega,by have:=a.2;omega,fun b=>by have:=h f b;have:=a.1;have:=a.2;omega⟩) (fun _ _=>z))) (fun f a b=>a.2.2 (b▸B))) ?_;rintro _ G0 ⟨d0,e0⟩;have⟨f0,H0⟩:=Eu Z d0 (by have:=h _ B;omega);refine Ro 9 ?_;intro i hK;exact⟨g,nr,(wrap .i64 (c+1)),((d.set (c).toNat e)),hK.sub z,f0,(by omega),(AA.wideN e0),hF⟩
  ·intro hF;cases BK hF;exact Rc 12 (Ne z z ⟨_,z,_,z,AA.baseN (AA.wideN k),j⟩)
def Xa(n:Nat)(a0:Ad):Option Ad:=(ZH n a0.Cells).bind fun a=>some ((Ad.mk a))
theorem AbL{g h:Ad}{i:Value}(hF:Xa n g=some h)(hH:H<=w.heap.size)(s:AP C_Cell w H g.Cells i):
 Calls prog 37 [.agg #[i]].toArray w (Di fun t e=>∃f,t= .agg #[f]∧AA C_Cell e w.heap.size (SX w.heap.size e.heap.size f) 146 h.Cells f∧AD w e):=by
 unfold Xa at hF;refine AB func37 z ntmps37 (Rc 2 (Ef z (AF z z) ?_));rintro _ D ⟨E,rfl,F,G,j,c⟩;have I:=j.size;refine Ef z (AE z kD) ?_;rintro _ J ⟨K,rfl,L,M,k,a⟩;have⟨u,N⟩:=Et j k;have c:=c.ext k;refine Ro 4 (Ef z (AE z kD) ?_);rintro _ O ⟨P,rfl,Q,R,l,d⟩;have⟨m,S⟩:=Et u l;have⟨c,a⟩:=Be c a l;refine Ro 4 (Fl VK jX c ?_);refine Cg hF tR (fun _ v=>(AfZ v (by omega) (s.oj m):)) ?_;rintro T hF U V ⟨_,rfl,b,o⟩;have⟨x,W⟩:=Et m o;have⟨a,d⟩:=Be a d o;have p:=AA.blk b;refine Yl z (BQ z Cx) (Ef z (BO z z z d tJ (AK.cells (AA.slN b nr nr)) (AK.one (AA.slN b nr nr)) z) ?_);rintro _ X ⟨q,y⟩;have⟨A,Y⟩:=Eu x q;have⟨a,b⟩:=Hn a (Az b p) q;have d:=y;refine Ro 4 (Yl z (BW z JJ d Gy) (Ef z (BV z a Gy (AC (AK.one (AA.slN b nr nr)) BH) z) ?_));rintro _ Z ⟨r,B⟩;have⟨C,a0⟩:=Eu A r;have b:=gW (Az b p) r;have a:=B;cases BK hF;exact Ro 3 (Su a JJ Gy ⟨_,z,_,z,AA.baseN (AA.wideN b),C⟩)
def Vu(n:Nat)(a0:AV):Option AV:=(St n a0.Nets).bind fun a=>some ((AV.mk a0.Name a0.Cell a))
theorem AcV{e f:AV}{g:Value}(hF:Vu n e=some f)(hH:H<=w.heap.size)(u:AP (AH .i64) w H e.Nets g):
 Calls prog 116 [.agg #[.string e.Name,.i e.Cell,g]].toArray w (Di fun v h=>∃i,v= .agg #[.string f.Name,.i f.Cell,i]∧AA (AH .i64) h w.heap.size (Iv 0 0) 2 f.Nets i∧AD w h):=by
 unfold Vu at hF;refine AB func116 z ntmps116 (Rc 2 (Ef z (AF z z) ?_));rintro _ K ⟨L,rfl,M,N,j,b⟩;have O:=j.size;refine Ef z (AE z JS) ?_;rintro _ P ⟨Q,rfl,R,S,k,a⟩;have⟨x,T⟩:=Et j k;have b:=b.ext k;refine Ro 4 (Ef z (AE z JS) ?_);rintro _ U ⟨V,rfl,W,X,l,c⟩;have⟨y,Y⟩:=Et x l;have⟨b,a⟩:=Be b a l;refine Ro 4 (Fl Qv Dn b (Yl z (BQ z Jh) (Ef z (BV z c Jq z z) ?_)));rintro _ Z ⟨m,A⟩;have⟨B,a0⟩:=Eu y m;have⟨b,a⟩:=Hn b a m;have c:=A;refine Ro 4 (Fl Wx AI b (Yl z (BQ z Du) (Ef z (BV z c As z z) ?_)));rintro _ b0 ⟨o,C⟩;have⟨p,c0⟩:=Eu B o;have⟨b,a⟩:=Hn b a o;have c:=C;refine Ro 4 (Fl Si Ah b ?_);refine Cg hF Gp (fun _ D=>(UT D (by omega) (u.oj p):)) ?_;rintro d0 hF e0 f0 ⟨_,rfl,d,q⟩;have⟨E,g0⟩:=Et p q;have⟨a,c⟩:=Be a c q;have r:=AA.blk d;refine Yl z (BQ z DW) (Ef z (BO z z z c GR d.cells d.one z) ?_);rintro _ h0 ⟨s,F⟩;have⟨G,i0⟩:=Eu E s;have⟨a,d⟩:=Hn a (Az d r) s;have c:=F;refine Ro 4 (Yl z (BW z GN c By) (Ef z (BV z a By (AC z (AC z (AC d.one BH))) z) ?_));rintro _ j0 ⟨t,I⟩;have⟨J,k0⟩:=Eu G t;have d:=gW (Az d r) t;have a:=I;cases BK hF;exact Ro 3 (Su a GN By ⟨_,z,_,z,AA.base d,J⟩)
def KU(n:Nat)(a0:List AV)(k0:Int->(List AV)->Option (List AV)):Nat->Int->(List AV)->Option (List AV)
 |0,_,_=>none
 |m+1,a,b=>cond (decide (a<(a0.length:Int))) ((AG a0 a).bind fun c=>(Vu n c).bind fun d=>(AG b a).bind fun e=>KU n a0 k0 m (wrap .i64 (a+1)) ((b.set (a).toNat d))) (k0 a b)
def Yn(n:Nat)(a0:List AV):Option (List AV):=(ME ((a0.length:Int)) 48).bind fun b=>KU n a0 (fun c a=>some a) n 0 (List.replicate b ((AV.mk ByteArray.empty 0 (([]:List Int)))))
theorem AeC{i j:List AV}{k:Value}(hF:Yn n i=some j)(hH:H<=w.heap.size)(l:AP C_Instance w H i k):
 Calls prog 74 [k].toArray w (Di fun F m=>∃o,F=o∧AA C_Instance m w.heap.size (SX w.heap.size m.heap.size o) 148 j o∧AD w m):=by
 have G:=AD.refl w;unfold Yn at hF;refine AB func74 z ntmps74 (Rc 8 (Yl z (CJ z UC (l.oj G)) ?_));have⟨I,J,hF⟩:=AM hF;refine Ef z (CM (c:=C_Instance) (z:=(AV.mk ByteArray.empty 0 (([]:List Int)))) z FA mN z z z J z z (fun _=>LM (AK.nil _ _ _))) ?_;rintro p K ⟨v,q,Y,Z,x,r⟩;have a0:=x.size;have r:=AA.toN r q;have y:=BP q;clear q;refine Ro 10 (WC.loopD (fun d e wl=>∃(b:Int) (c:List AV),Kn 23 [(0,k),(3,p),(4,.i b)] e∧AD w wl∧K.heap.size<=wl.heap.size∧AA C_Instance wl (v) (SX (v) wl.heap.size p) 148 c p∧KU n i (fun b c=>(some c)) d b c=some j) n ?_ ?_)
 ·intro e hK;exact⟨0,(List.replicate I ((AV.mk ByteArray.empty 0 (([]:List Int))))),hK.sub z,x,nr,(AA.wideN r),hF⟩
 ·rintro d e b0 ⟨b,c,hK,f,c0,g,hF⟩;refine CB hK ?_;rcases d with _|d;exact CA hF;rw [KU.eq_2]at hF;refine Rc 5 (Yl z (CJ z UC (l.oj f)) (Ro 3 (Wc z hF ?_ ?_)))
  ·intro hF;refine Rc 9 (Ix hF (l.oj f) UC Qo ?_);rintro A d0 hF _ ⟨e0,f0,g0,rfl,h0,L,M⟩;obtain⟨N,rfl,O⟩:=BJ L;refine Yl z (CI (us:=[.string A.Name,.i A.Cell,N]) z Zv M Qo) ?_;refine Cg hF oC (fun _ a=>(AcV a (by omega) O:)) ?_;rintro h hF _ P ⟨Q,rfl,s,B⟩;have⟨R,i0⟩:=Et f B;have g:=g.extN B (by omega);have j0:=AA.blk s;have C:=AA.wideN (hi':=P.heap.size) g;refine Io hF C FA By ?_;rintro k0 S hF _ ⟨l0,m0,rfl,t,D,T⟩;have U:=D;obtain⟨n0,rfl,o0⟩:=BJ D;refine Ef z (Al (c:=C_Instance) (us':=[.string h.Name,.i h.Cell,Q]) (y':=h) 0 _ z z z C t S z By (AC z (AC z (AC s.one BH))) U T z z (LM ((AA.slf s nr nr).mono (fun E a=>⟨by have:=a.1;omega,by have:=a.2;omega,fun u=>by have:=y E u;have:=a.1;have:=a.2;omega⟩) (fun _ _=>z))) (fun E a u=>a.2.2 (u▸t))) ?_;rintro _ p0 ⟨V,W⟩;have⟨X,q0⟩:=Eu R V (by have:=y _ t;omega);refine Ro 9 ?_;intro e hK;exact⟨d,nr,(wrap .i64 (b+1)),((c.set (b).toNat h)),hK.sub z,X,(by omega),(AA.wideN W),hF⟩
  ·intro hF;cases BK hF;exact Rc 12 (Ne z z ⟨_,z,_,z,AA.baseN (AA.wideN g),f⟩)
def KS(a0:List ByteArray)(k0:Int->(List ByteArray)->Option (List ByteArray)):Nat->Int->(List ByteArray)->Option (List ByteArray)
 |0,_,_=>none
 |m+1,a,b=>cond (decide (a<(a0.length:Int))) ((AG a0 a).bind fun c=>(AG b a).bind fun d=>KS a0 k0 m (wrap .i64 (a+1)) ((b.set (a).toNat c))) (k0 a b)
def Xo(n:Nat)(a0:List ByteArray):Option (List ByteArray):=(ME ((a0.length:Int)) 16).bind fun b=>KS a0 (fun c a=>some a) n 0 (List.replicate b ByteArray.empty)
theorem AcS{h i:List ByteArray}{j:Value}(a:Xo n h=some i)(O:H<=w.heap.size)(k:AP At w H h j):
 Calls prog 75 [j].toArray w (Di fun v o=>∃p,v=p∧AA At o w.heap.size (Iv 0 0) 9 i p∧AD w o):=by
 have x:=AD.refl w;unfold Xo at a;refine AB func75 z ntmps75 (Rc 8 (Yl z (CJ z DN (k.oj x)) ?_));have⟨y,A,a⟩:=AM a;refine Ef z (CM (c:=At) (z:=ByteArray.empty) z DN LW z z z A z z (fun _=>z)) ?_;rintro q B ⟨C,r,P,Q,s,D⟩;have R:=s.size;have E:=BP r;clear r;refine Ro 10 (WC.loopD (fun d f wl=>∃(b:Int) (c:List ByteArray),Kn 22 [(0,j),(3,q),(4,.i b)] f∧AD w wl∧B.heap.size<=wl.heap.size∧AA At wl (C) (Iv 0 0) 9 c q∧KS h (fun b c=>(some c)) d b c=some i) n ?_ ?_)
 ·intro f e;exact⟨0,(List.replicate y ByteArray.empty),e.sub z,s,nr,D,a⟩
 ·rintro d f S ⟨b,c,e,g,T,l,a⟩;refine CB e ?_;rcases d with _|d;exact CA a;rw [KS.eq_2]at a;refine Rc 5 (Yl z (CJ z DN (k.oj g)) (Ro 3 (Wc z a ?_ ?_)))
  ·intro a;refine Rc 9 (Il a (k.oj g) DN Jq Dn ?_);rintro m a _;refine Io a l DN Jq ?_;rintro U F a _ ⟨V,W,rfl,t,u,G⟩;have I:=u;obtain rfl:=u;refine Ef z (Al (c:=At) (us':=[.string m]) (y':=m) 0 _ z z z l t F z Jq z I G z z z (fun J K=>absurd K.2 (Nat.not_lt_zero J))) ?_;rintro _ X ⟨L,M⟩;have⟨N,Y⟩:=Eu g L (by have:=E _ t;omega);refine Ro 9 ?_;intro f e;exact⟨d,nr,(wrap .i64 (b+1)),((c.set (b).toNat m)),e.sub z,N,(by omega),M,a⟩
  ·intro a;cases BK a;exact Rc 12 (Ne z z ⟨_,z,_,z,AA.base l,g⟩)
def Xe(n:Nat)(a0:BS):Option BS:=some a0
theorem AbT{d e:BS}(f:Xe n d=some e):
 Calls prog 117 [.agg #[.string d.Name,.i d.Dir,.i d.Net]].toArray w (Di fun m g=>m= .agg #[.string e.Name,.i e.Dir,.i e.Net]∧AD w g):=by
 unfold Xe at f;refine AB func117 z ntmps117 (Rc 2 (Ef z (AF z z) ?_));rintro _ g ⟨B,rfl,C,D,h,a⟩;have E:=h.size;refine Ef z (AE z OY) ?_;rintro _ F ⟨G,rfl,I,J,i,b⟩;have⟨o,K⟩:=Et h i;have a:=a.ext i;refine Ro 4 (Ef z (AE z OY) ?_);rintro _ L ⟨M,rfl,N,O,j,c⟩;have⟨p,P⟩:=Et o j;have⟨a,b⟩:=Be a b j;refine Ro 4 (Fl RL Dn a (Yl z (BQ z JM) (Ef z (BV z c Jq z z) ?_)));rintro _ Q ⟨k,q⟩;have⟨r,R⟩:=Eu p k;have⟨a,b⟩:=Hn a b k;have c:=q;refine Ro 4 (Fl aH AI a (Yl z (BQ z En) (Ef z (BV z c As z z) ?_)));rintro _ S ⟨H,s⟩;have⟨t,T⟩:=Eu r H;have⟨a,b⟩:=Hn a b H;have c:=s;refine Ro 4 (Fl dG AI a (Yl z (BQ z FE) (Ef z (BV z c As z z) ?_)));rintro _ U ⟨l,u⟩;have⟨v,V⟩:=Eu t l;have b:=b.upd l (by omega);have c:=u;refine Ro 4 (Yl z (BW z MA c DB) (Ef z (BV z b DB z z) ?_));rintro _ W ⟨x,y⟩;have⟨A,X⟩:=Eu v x;have b:=y;obtain rfl:=(Sy f);exact Ro 3 (Su b MA DB ⟨_,z,z,A⟩)
def LD(n:Nat)(a0:List BS)(k0:Int->(List BS)->Option (List BS)):Nat->Int->(List BS)->Option (List BS)
 |0,_,_=>none
 |m+1,a,b=>cond (decide (a<(a0.length:Int))) ((AG a0 a).bind fun d=>(Xe n d).bind fun c=>(AG b a).bind fun e=>LD n a0 k0 m (wrap .i64 (a+1)) ((b.set (a).toNat c))) (k0 a b)
def YU(n:Nat)(a0:List BS):Option (List BS):=(ME ((a0.length:Int)) 32).bind fun b=>LD n a0 (fun c a=>some a) n 0 (List.replicate b ((BS.mk ByteArray.empty 0 0)))
theorem AbS{h i:List BS}{j:Value}(hF:YU n h=some i)(hH:H<=w.heap.size)(k:AP C_Port w H h j):
 Calls prog 76 [j].toArray w (Di fun x o=>∃p,x=p∧AA C_Port o w.heap.size (Iv 0 0) 203 i p∧AD w o):=by
 have y:=AD.refl w;unfold YU at hF;refine AB func76 z ntmps76 (Rc 8 (Yl z (CJ z UR (k.oj y)) ?_));have⟨A,B,hF⟩:=AM hF;refine Ef z (CM (c:=C_Port) (z:=(BS.mk ByteArray.empty 0 0)) z GE qO z z z B z z (fun _=>PO)) ?_;rintro q C ⟨D,r,R,S,s,E⟩;have T:=s.size;have F:=BP r;clear r;refine Ro 10 (WC.loopD (fun c f wl=>∃(a:Int) (b:List BS),Kn 23 [(0,j),(3,q),(4,.i a)] f∧AD w wl∧C.heap.size<=wl.heap.size∧AA C_Port wl (D) (Iv 0 0) 203 b q∧LD n h (fun a b=>(some b)) c a b=some i) n ?_ ?_)
 ·intro f hK;exact⟨0,(List.replicate A ((BS.mk ByteArray.empty 0 0))),hK.sub z,s,nr,E,hF⟩
 ·rintro c f U ⟨a,b,hK,g,V,d,hF⟩;refine CB hK ?_;rcases c with _|c;exact CA hF;rw [LD.eq_2]at hF;refine Rc 5 (Yl z (CJ z UR (k.oj g)) (Ro 3 (Wc z hF ?_ ?_)))
  ·intro hF;refine Rc 9 (Ix hF (k.oj g) UR QW ?_);rintro l W hF _ ⟨X,Y,Z,rfl,a0,G,I⟩;obtain rfl:=CE G;refine Yl z (CI (us:=[.string l.Name,.i l.Dir,.i l.Net]) z ZY I QW) ?_;refine Cg hF qE (fun _ m=>(AbT m:)) ?_;rintro e hF _ b0 ⟨rfl,t⟩;have⟨J,c0⟩:=Et g t;have d:=d.ext t;refine Io hF d GE DB ?_;rintro d0 K hF _ ⟨e0,f0,rfl,u,v,L⟩;have M:=v;obtain rfl:=CE v;refine Ef z (Al (c:=C_Port) (us':=[.string e.Name,.i e.Dir,.i e.Net]) (y':=e) 0 _ z z z d u K z DB z M L z z PO (fun N m=>absurd m.2 (Nat.not_lt_zero N))) ?_;rintro _ g0 ⟨O,P⟩;have⟨Q,h0⟩:=Eu J O (by have:=F _ u;omega);refine Ro 9 ?_;intro f hK;exact⟨c,nr,(wrap .i64 (a+1)),((b.set (a).toNat e)),hK.sub z,Q,(by omega),P,hF⟩
  ·intro hF;cases BK hF;exact Rc 12 (Ne z z ⟨_,z,_,z,AA.base d,g⟩)
def dM(n:Nat)(a0:AQ):Option AQ:=(Yn n a0.Instances).bind fun b=>(Xo n a0.Nets).bind fun a=>(YU n a0.Ports).bind fun c=>some ((AQ.mk b a c))
theorem AgK{m o:AQ}{s t u:Value}(g:dM n m=some o)(Z:H<=w.heap.size)(L:AP C_Instance w H m.Instances s)(M:AP At w H m.Nets t)(N:AP C_Port w H m.Ports u):
 Calls prog 38 [.agg #[s,t,u]].toArray w (Di fun O i=>∃j p q,O= .agg #[j,p,q]∧AA C_Instance i w.heap.size (SX w.heap.size i.heap.size j) 148 o.Instances j∧AA At i w.heap.size (Iv 0 0) 9 o.Nets p∧AA C_Port i w.heap.size (Iv 0 0) 203 o.Ports q∧No p j∧No q j∧No q p∧AD w i):=by
 unfold dM at g;refine AB func38 z ntmps38 (Rc 2 (Ef z (AF z z) ?_));rintro _ a0 ⟨b0,rfl,c0,d0,v,c⟩;have e0:=v.size;refine Ef z (AE z YS) ?_;rintro _ f0 ⟨g0,rfl,h0,i0,x,a⟩;have⟨P,j0⟩:=Et v x;have c:=c.ext x;refine Ro 4 (Ef z (AE z YS) ?_);rintro _ k0 ⟨l0,rfl,m0,n0,y,d⟩;have⟨A,o0⟩:=Et P y;have⟨c,a⟩:=Be c a y;refine Ro 4 (Fl VH jS c ?_);refine Cg g yD (fun _ k=>(AeC k (by omega) (L.oj A):)) ?_;rintro p0 g q0 r0 ⟨_,rfl,b,B⟩;have⟨Q,s0⟩:=Et A B;have⟨c,a,d⟩:=Cc c a d B;have h:=AA.blk b;refine Yl z (BQ z Ci) (Ef z (BO z z z d yK (AK.cells (AA.slN b nr nr)) (AK.one (AA.slN b nr nr)) z) ?_);rintro _ t0 ⟨C,R⟩;have⟨D,u0⟩:=Eu Q C;have⟨c,a,b⟩:=Ee c a (Az b h) C;have d:=R;refine Ro 4 (Fl VD Gj c ?_);refine Cg g uW (fun _ k=>(AcS k (by omega) (M.oj D):)) ?_;rintro v0 g w0 x0 ⟨_,rfl,e,E⟩;have⟨S,y0⟩:=Et D E;have⟨c,a,d,b⟩:=DC c a d b E;have l:=AA.blk e;refine Yl z (BQ z ER) (Ef z (BO z z z d yE e.cells e.one z) ?_);rintro _ z0 ⟨F,T⟩;have⟨G,A0⟩:=Eu S F;have⟨c,a,b,e⟩:=NO c a (Az b h) (Az e l) F;have d:=T;refine Ro 4 (Fl VJ lB c ?_);refine Cg g uV (fun _ k=>(AbS k (by omega) (N.oj G):)) ?_;rintro B0 g C0 D0 ⟨_,rfl,f,I⟩;have⟨U,E0⟩:=Et G I;have⟨a,d,b,e⟩:=DC a d b e I;have r:=AA.blk f;refine Yl z (BQ z Da) (Ef z (BO z z z d yN f.cells f.one z) ?_);rintro _ F0 ⟨J,V⟩;have⟨W,G0⟩:=Eu U J;have⟨a,b,e,f⟩:=NO a (Az b h) (Az e l) (Az f r) J;have d:=V;refine Ro 4 (Yl z (BW z DL d Cv) (Ef z (BV z a Cv (AC (AK.one (AA.slN b nr nr)) (AC e.one (AC f.one BH))) z) ?_));rintro _ H0 ⟨K,X⟩;have⟨Y,I0⟩:=Eu W K;have⟨b,e,f⟩:=Ee (Az b h) (Az e l) (Az f r) K;have a:=X;cases BK g;exact Ro 3 (Su a DL Cv ⟨_,z,_,_,_,z,AA.baseN (AA.wideN b),AA.base e,AA.base f,(No.of l h),(No.of r h),(No.of r l),Y⟩)
def Vd(n:Nat)(a0:Av):Option Av:=(St n a0.Parent).bind fun a=>(St n a0.Res).bind fun b=>(St n a0.Cap).bind fun c=>(St n a0.Sink).bind fun d=>some ((Av.mk a b c d))
theorem zP{m o:Av}{v x y A:Value}(g:Vd n m=some o)(j0:H<=w.heap.size)(S:AP (AH .i64) w H m.Parent v)(T:AP (AH .i64) w H m.Res x)(U:AP (AH .i64) w H m.Cap y)(V:AP (AH .i64) w H m.Sink A):
 Calls prog 77 [.agg #[v,x,y,A]].toArray w (Di fun W p=>∃q r s t,W= .agg #[q,r,s,t]∧AA (AH .i64) p w.heap.size (Iv 0 0) 2 o.Parent q∧AA (AH .i64) p w.heap.size (Iv 0 0) 2 o.Res r∧AA (AH .i64) p w.heap.size (Iv 0 0) 2 o.Cap s∧AA (AH .i64) p w.heap.size (Iv 0 0) 2 o.Sink t∧No r q∧No s q∧No s r∧No t q∧No t r∧No t s∧AD w p):=by
 unfold Vd at g;refine AB func77 z ntmps77 (Rc 2 (Ef z (AF z z) ?_));rintro _ k0 ⟨l0,rfl,m0,n0,B,c⟩;have o0:=B.size;refine Ef z (AE z KG) ?_;rintro _ p0 ⟨q0,rfl,r0,s0,C,a⟩;have⟨X,t0⟩:=Et B C;have c:=c.ext C;refine Ro 4 (Ef z (AE z KG) ?_);rintro _ u0 ⟨v0,rfl,w0,x0,D,d⟩;have⟨E,y0⟩:=Et X D;have⟨c,a⟩:=Be c a D;refine Ro 4 (Fl RF Ah c ?_);refine Cg g Gp (fun _ j=>(UT j (by omega) (S.oj E):)) ?_;rintro z0 g A0 B0 ⟨_,rfl,b,F⟩;have⟨Y,C0⟩:=Et E F;have⟨c,a,d⟩:=Cc c a d F;have i:=AA.blk b;refine Yl z (BQ z EK) (Ef z (BO z z z d GR b.cells b.one z) ?_);rintro _ D0 ⟨G,Z⟩;have⟨I,E0⟩:=Eu Y G;have⟨c,a,b⟩:=Ee c a (Az b i) G;have d:=Z;refine Ro 4 (Fl RN Ah c ?_);refine Cg g Gp (fun _ j=>(UT j (by omega) (T.oj I):)) ?_;rintro F0 g G0 H0 ⟨_,rfl,e,J⟩;have⟨a0,I0⟩:=Et I J;have⟨c,a,d,b⟩:=DC c a d b J;have k:=AA.blk e;refine Yl z (BQ z EW) (Ef z (BO z z z d GR e.cells e.one z) ?_);rintro _ J0 ⟨K,b0⟩;have⟨L,K0⟩:=Eu a0 K;have⟨c,a,b,e⟩:=NO c a (Az b i) (Az e k) K;have d:=b0;refine Ro 4 (Fl RD Ah c ?_);refine Cg g Gp (fun _ j=>(UT j (by omega) (U.oj L):)) ?_;rintro L0 g M0 N0 ⟨_,rfl,f,M⟩;have⟨c0,O0⟩:=Et L M;have⟨c,a,d,b,e⟩:=GQ c a d b e M;have l:=AA.blk f;refine Yl z (BQ z FV) (Ef z (BO z z z d GR f.cells f.one z) ?_);rintro _ P0 ⟨N,d0⟩;have⟨O,Q0⟩:=Eu c0 N;have⟨c,a,b,e,f⟩:=QP c a (Az b i) (Az e k) (Az f l) N;have d:=d0;refine Ro 4 (Fl SV Ah c ?_);refine Cg g Gp (fun _ j=>(UT j (by omega) (V.oj O):)) ?_;rintro R0 g S0 T0 ⟨_,rfl,h,P⟩;have⟨e0,U0⟩:=Et O P;have⟨a,d,b,e,f⟩:=GQ a d b e f P;have u:=AA.blk h;refine Yl z (BQ z Dg) (Ef z (BO z z z d GR h.cells h.one z) ?_);rintro _ V0 ⟨Q,f0⟩;have⟨g0,W0⟩:=Eu e0 Q;have⟨a,b,e,f,h⟩:=QP a (Az b i) (Az e k) (Az f l) (Az h u) Q;have d:=f0;refine Ro 4 (Yl z (BW z GC d CO) (Ef z (BV z a CO (AC b.one (AC e.one (AC f.one (AC h.one BH)))) z) ?_));rintro _ X0 ⟨R,h0⟩;have⟨i0,Y0⟩:=Eu g0 R;have⟨b,e,f,h⟩:=NO (Az b i) (Az e k) (Az f l) (Az h u) R;have a:=h0;cases BK g;exact Ro 3 (Su a GC CO ⟨_,z,_,_,_,_,z,AA.base b,AA.base e,AA.base f,AA.base h,(No.of k i),(No.of l i),(No.of l k),(No.of u i),(No.of u k),(No.of u l),i0⟩)
def Kb(n:Nat)(a0:List Av)(k0:Int->(List Av)->Option (List Av)):Nat->Int->(List Av)->Option (List Av)
 |0,_,_=>none
 |m+1,a,b=>cond (decide (a<(a0.length:Int))) ((AG a0 a).bind fun d=>(Vd n d).bind fun c=>(AG b a).bind fun e=>Kb n a0 k0 m (wrap .i64 (a+1)) ((b.set (a).toNat c))) (k0 a b)
def XF(n:Nat)(a0:List Av):Option (List Av):=(ME ((a0.length:Int)) 96).bind fun b=>Kb n a0 (fun c a=>some a) n 0 (List.replicate b ((Av.mk (([]:List Int)) (([]:List Int)) (([]:List Int)) (([]:List Int)))))
theorem AaM{k l:List Av}{m:Value}(hF:XF n k=some l)(hH:H<=w.heap.size)(o:AP C_Wire w H k m):
 Calls prog 39 [m].toArray w (Di fun I p=>∃q,I=q∧AA C_Wire p w.heap.size (SX w.heap.size p.heap.size q) 134 l q∧AD w p):=by
 have J:=AD.refl w;unfold XF at hF;refine AB func39 z ntmps39 (Rc 8 (Yl z (CJ z Te (o.oj J)) ?_));have⟨K,L,hF⟩:=AM hF;refine Ef z (CM (c:=C_Wire) (z:=(Av.mk (([]:List Int)) (([]:List Int)) (([]:List Int)) (([]:List Int)))) z GB sC z z z L z z (fun _=>PN (AK.nil _ _ _) (AK.nil _ _ _) (AK.nil _ _ _) (AK.nil _ _ _))) ?_;rintro r M ⟨B,s,j0,k0,C,t⟩;have l0:=C.size;have t:=AA.toN t s;have f:=BP s;clear s;refine Ro 10 (WC.loopD (fun g h wl=>∃(d:Int) (e:List Av),Kn 23 [(0,m),(3,r),(4,.i d)] h∧AD w wl∧M.heap.size<=wl.heap.size∧AA C_Wire wl (B) (SX (B) wl.heap.size r) 134 e r∧Kb n k (fun d e=>(some e)) g d e=some l) n ?_ ?_)
 ·intro h hK;exact⟨0,(List.replicate K ((Av.mk (([]:List Int)) (([]:List Int)) (([]:List Int)) (([]:List Int))))),hK.sub z,C,nr,(AA.wideN t),hF⟩
 ·rintro g h m0 ⟨d,e,hK,i,n0,j,hF⟩;refine CB hK ?_;rcases g with _|g;exact CA hF;rw [Kb.eq_2]at hF;refine Rc 5 (Yl z (CJ z Te (o.oj i)) (Ro 3 (Wc z hF ?_ ?_)))
  ·intro hF;refine Rc 9 (Ix hF (o.oj i) Te Pn ?_);rintro o0 p0 hF _ ⟨q0,r0,s0,rfl,t0,N,O⟩;obtain⟨P,Q,R,S,rfl,T,U,V,W⟩:=CD N;refine Yl z (CI (us:=[P,Q,R,S]) z YF O Pn) ?_;refine Cg hF tT (fun _ a=>(zP a (by omega) T U V W:)) ?_;rintro D hF _ X ⟨Y,Z,a0,b0,rfl,u,v,x,y,u0,v0,w0,x0,y0,z0,E⟩;have⟨c0,A0⟩:=Et i E;have j:=j.extN E (by omega);have B0:=AA.blk u;have C0:=AA.blk v;have D0:=AA.blk x;have E0:=AA.blk y;have F:=AA.wideN (hi':=X.heap.size) j;refine Io hF F GB CO ?_;rintro F0 d0 hF _ ⟨G0,H0,rfl,A,G,e0⟩;have f0:=G;obtain⟨I0,J0,K0,L0,rfl,M0,N0,O0,P0⟩:=CD G;refine Ef z (Al (c:=C_Wire) (us':=[Y,Z,a0,b0]) (y':=D) 0 _ z z z F A d0 z CO (AC u.one (AC v.one (AC x.one (AC y.one BH)))) f0 e0 z z (PN ((AA.slf u nr nr).mono (fun c a=>⟨by have:=a.1;omega,by have:=a.2;omega,fun b=>by have:=f c b;have:=a.1;have:=a.2;omega⟩) (fun _ _=>z)) ((AA.slf v nr nr).mono (fun c a=>⟨by have:=a.1;omega,by have:=a.2;omega,fun b=>by have:=f c b;have:=a.1;have:=a.2;omega⟩) (fun _ _=>z)) ((AA.slf x nr nr).mono (fun c a=>⟨by have:=a.1;omega,by have:=a.2;omega,fun b=>by have:=f c b;have:=a.1;have:=a.2;omega⟩) (fun _ _=>z)) ((AA.slf y nr nr).mono (fun c a=>⟨by have:=a.1;omega,by have:=a.2;omega,fun b=>by have:=f c b;have:=a.1;have:=a.2;omega⟩) (fun _ _=>z))) (fun c a b=>a.2.2 (b▸A))) ?_;rintro _ Q0 ⟨g0,h0⟩;have⟨i0,R0⟩:=Eu c0 g0 (by have:=f _ A;omega);refine Ro 9 ?_;intro h hK;exact⟨g,nr,(wrap .i64 (d+1)),((e.set (d).toNat D)),hK.sub z,i0,(by omega),(AA.wideN h0),hF⟩
  ·intro hF;cases BK hF;exact Rc 12 (Ne z z ⟨_,z,_,z,AA.baseN (AA.wideN j),i⟩)
def TY(n:Nat)(a0:AO):Option AO:=(Xa n a0.Library).bind fun b=>(dM n a0.Design).bind fun a=>(XF n a0.Wires).bind fun c=>some ((AO.mk b a c))
theorem iC{p q:AO}{A B C D F:Value}(j:TY n p=some q)(m0:H<=w.heap.size)(T:AP C_Cell w H p.Library.Cells A)(U:AP C_Instance w H p.Design.Instances B)(V:AP At w H p.Design.Nets C)(W:AP C_Port w H p.Design.Ports D)(X:AP C_Wire w H p.Wires F):
 Calls prog 10 [.agg #[A,B,C,D,F]].toArray w (Di fun Y h=>∃l m r s o,Y= .agg #[l,m,r,s,o]∧AA C_Cell h w.heap.size (SX w.heap.size h.heap.size l) 146 q.Library.Cells l∧AA C_Instance h w.heap.size (SX w.heap.size h.heap.size m) 148 q.Design.Instances m∧AA At h w.heap.size (Iv 0 0) 9 q.Design.Nets r∧AA C_Port h w.heap.size (Iv 0 0) 203 q.Design.Ports s∧AA C_Wire h w.heap.size (SX w.heap.size h.heap.size o) 134 q.Wires o∧No m l∧No r l∧No r m∧No s l∧No s m∧No s r∧No o l∧No o m∧No o r∧No o s∧AD w h):=by
 unfold TY at j;refine AB func10 z ntmps10 (Rc 2 (Ef z (AF z z) ?_));rintro _ n0 ⟨o0,rfl,p0,q0,G,c⟩;have r0:=G.size;refine Ef z (AE z dF) ?_;rintro _ s0 ⟨t0,rfl,u0,v0,I,a⟩;have⟨Z,w0⟩:=Et G I;have c:=c.ext I;refine Ro 4 (Ef z (AE z dF) ?_);rintro _ x0 ⟨y0,rfl,z0,A0,J,d⟩;have⟨K,B0⟩:=Et Z J;have⟨c,a⟩:=Be c a J;refine Ro 4 (Yl z (BQ z VB) (Yl z (CI (us:=[A]) z kF (AR.sub (Ae.cells c) 0 1:AR _ _ _ [A]) jT) ?_));refine Cg j xS (fun _ u=>(AbL u (by omega) (T.oj K):)) ?_;rintro C0 j _ D0 ⟨E0,rfl,b,L⟩;have⟨a0,F0⟩:=Et K L;have⟨c,a,d⟩:=Cc c a d L;have k:=AA.blk b;refine Yl z (BQ z FF) (Ef z (BV z d Gy (AC (AK.one (AA.slN b nr nr)) BH) z) ?_);rintro _ G0 ⟨M,b0⟩;have⟨E,H0⟩:=Eu a0 M;have⟨c,a,b⟩:=Ee c a (Az b k) M;have d:=b0;refine Ro 4 (Yl z (BQ z VR) (Yl z (CI (us:=[B,C,D]) z kA (AR.sub (Ae.cells c) 1 3:AR _ _ _ [B,C,D]) kX) ?_));refine Cg j uK (fun _ u=>(AgK u (by omega) (U.oj E) (V.oj E) (W.oj E):)) ?_;rintro I0 j _ J0 ⟨K0,L0,M0,rfl,e,f,g,c0,d0,e0,N⟩;have⟨f0,N0⟩:=Et E N;have⟨c,a,d,b⟩:=DC c a d b N;have v:=AA.blk e;have x:=AA.blk f;have y:=AA.blk g;refine Yl z (BQ z CX) (Ef z (BV z d Cv (AC (AK.one (AA.slN e nr nr)) (AC f.one (AC g.one BH))) z) ?_);rintro _ O0 ⟨O,g0⟩;have⟨P,P0⟩:=Eu f0 O;have⟨c,a,b,e,f,g⟩:=WG c a (Az b k) (Az e v) (Az f x) (Az g y) O;have d:=g0;refine Ro 4 (Fl Uo kZ c ?_);refine Cg j xG (fun _ u=>(AaM u (by omega) (X.oj P):)) ?_;rintro Q0 j R0 S0 ⟨_,rfl,i,Q⟩;have⟨h0,T0⟩:=Et P Q;have⟨a,d,b,e,f,g⟩:=IK a d b e f g Q;have t:=AA.blk i;refine Yl z (BQ z Cz) (Ef z (BO z z z d wO (AK.cells (AA.slN i nr nr)) (AK.one (AA.slN i nr nr)) z) ?_);rintro _ U0 ⟨R,i0⟩;have⟨j0,V0⟩:=Eu h0 R;have⟨a,b,e,f,g,i⟩:=WG a (Az b k) (Az e v) (Az f x) (Az g y) (Az i t) R;have d:=i0;refine Ro 4 (Yl z (BW z Bw d Br) (Ef z (BV z a Br (AC (AK.one (AA.slN b nr nr)) (AC (AK.one (AA.slN e nr nr)) (AC f.one (AC g.one (AC (AK.one (AA.slN i nr nr)) BH))))) z) ?_));rintro _ W0 ⟨S,k0⟩;have⟨l0,X0⟩:=Eu j0 S;have⟨b,e,f,g,i⟩:=QP (Az b k) (Az e v) (Az f x) (Az g y) (Az i t) S;have a:=k0;cases BK j;exact Ro 3 (Su a Bw Br ⟨_,z,_,_,_,_,_,z,AA.baseN (AA.wideN b),AA.baseN (AA.wideN e),AA.base f,AA.base g,AA.baseN (AA.wideN i),(No.of v k),(No.of x k),c0,(No.of y k),d0,e0,(No.of t k),(No.of t v),(No.of t x),(No.of t y),l0⟩)
def aQ(n:Nat)(a0:Aj):Option Aj:=some a0
theorem cU{d e:Aj}(hF:aQ n d=some e):
 Calls prog 11 [.agg #[.string d.Name,.i d.CellEarly,.i d.CellLate,.i d.WireEarly,.i d.WireLate]].toArray w (Di fun o f=>o= .agg #[.string e.Name,.i e.CellEarly,.i e.CellLate,.i e.WireEarly,.i e.WireLate]∧AD w f):=by
 unfold aQ at hF;refine AB func11 z ntmps11 (Rc 2 (Ef z (AF z z) ?_));rintro _ f ⟨G,rfl,I,J,g,a⟩;have K:=g.size;refine Ef z (AE z kT) ?_;rintro _ L ⟨M,rfl,N,O,h,b⟩;have⟨p,P⟩:=Et g h;have a:=a.ext h;refine Ro 4 (Ef z (AE z kT) ?_);rintro _ Q ⟨R,rfl,S,T,i,c⟩;have⟨q,U⟩:=Et p i;have⟨a,b⟩:=Be a b i;refine Ro 4 (Fl Uk Dn a (Yl z (BQ z Px) (Ef z (BV z c Jq z z) ?_)));rintro _ V ⟨j,r⟩;have⟨s,W⟩:=Eu q j;have⟨a,b⟩:=Hn a b j;have c:=r;refine Ro 4 (Fl iY AI a (Yl z (BQ z KY) (Ef z (BV z c As z z) ?_)));rintro _ X ⟨H,t⟩;have⟨u,Y⟩:=Eu s H;have⟨a,b⟩:=Hn a b H;have c:=t;refine Ro 4 (Fl hZ AI a (Yl z (BQ z KX) (Ef z (BV z c As z z) ?_)));rintro _ Z ⟨k,v⟩;have⟨x,a0⟩:=Eu u k;have⟨a,b⟩:=Hn a b k;have c:=v;refine Ro 4 (Fl fB AI a (Yl z (BQ z KW) (Ef z (BV z c As z z) ?_)));rintro _ b0 ⟨l,y⟩;have⟨A,c0⟩:=Eu x l;have⟨a,b⟩:=Hn a b l;have c:=y;refine Ro 4 (Fl hD AI a (Yl z (BQ z Kg) (Ef z (BV z c As z z) ?_)));rintro _ d0 ⟨m,B⟩;have⟨C,e0⟩:=Eu A m;have b:=b.upd m (by omega);have c:=B;refine Ro 4 (Yl z (BW z EV c ES) (Ef z (BV z b ES z z) ?_));rintro _ f0 ⟨D,E⟩;have⟨F,g0⟩:=Eu C D;have b:=E;obtain rfl:=(Sy hF);exact Ro 3 (Su b EV ES ⟨_,z,z,F⟩)
def KZ(a0:List Bool)(k0:Int->(List Bool)->Option (List Bool)):Nat->Int->(List Bool)->Option (List Bool)
 |0,_,_=>none
 |m+1,a,b=>cond (decide (a<(a0.length:Int))) ((AG a0 a).bind fun c=>(AG b a).bind fun d=>KZ a0 k0 m (wrap .i64 (a+1)) ((b.set (a).toNat c))) (k0 a b)
def Wb(n:Nat)(a0:List Bool):Option (List Bool):=(ME ((a0.length:Int)) 1).bind fun b=>KZ a0 (fun c a=>some a) n 0 (List.replicate b false)
theorem uA{h i:List Bool}{j:Value}(a:Wb n h=some i)(O:H<=w.heap.size)(k:AP Aq w H h j):
 Calls prog 40 [j].toArray w (Di fun v o=>∃p,v=p∧AA Aq o w.heap.size (Iv 0 0) 4 i p∧AD w o):=by
 have x:=AD.refl w;unfold Wb at a;refine AB func40 z ntmps40 (Rc 8 (Yl z (CJ z Db (k.oj x)) ?_));have⟨y,A,a⟩:=AM a;refine Ef z (CM (c:=Aq) (z:=false) z Db UQ z z z A z z (fun _=>z)) ?_;rintro q B ⟨C,r,P,Q,s,D⟩;have R:=s.size;have E:=BP r;clear r;refine Ro 10 (WC.loopD (fun d f wl=>∃(b:Int) (c:List Bool),Kn 22 [(0,j),(3,q),(4,.i b)] f∧AD w wl∧B.heap.size<=wl.heap.size∧AA Aq wl (C) (Iv 0 0) 4 c q∧KZ h (fun b c=>(some c)) d b c=some i) n ?_ ?_)
 ·intro f e;exact⟨0,(List.replicate y false),e.sub z,s,nr,D,a⟩
 ·rintro d f S ⟨b,c,e,g,T,l,a⟩;refine CB e ?_;rcases d with _|d;exact CA a;rw [KZ.eq_2]at a;refine Rc 5 (Yl z (CJ z Db (k.oj g)) (Ro 3 (Wc z a ?_ ?_)))
  ·intro a;refine Rc 9 (Il a (k.oj g) Db Ej De ?_);rintro m a _;refine Io a l Db Ej ?_;rintro U F a _ ⟨V,W,rfl,t,u,G⟩;have I:=u;obtain rfl:=u;refine Ef z (Al (c:=Aq) (us':=[.bool m]) (y':=m) 0 _ z z z l t F z Ej z I G z z z (fun J K=>absurd K.2 (Nat.not_lt_zero J))) ?_;rintro _ X ⟨L,M⟩;have⟨N,Y⟩:=Eu g L (by have:=E _ t;omega);refine Ro 9 ?_;intro f e;exact⟨d,nr,(wrap .i64 (b+1)),((c.set (b).toNat m)),e.sub z,N,(by omega),M,a⟩
  ·intro a;cases BK a;exact Rc 12 (Ne z z ⟨_,z,_,z,AA.base l,g⟩)
def Vt(n:Nat)(a0:AX):Option AX:=some a0
theorem yC{d e:AX}(f:Vt n d=some e):
 Calls prog 78 [.agg #[.i d.Early,.i d.Late]].toArray w (Di fun m g=>m= .agg #[.i e.Early,.i e.Late]∧AD w g):=by
 unfold Vt at f;refine AB func78 z ntmps78 (Rc 2 (Ef z (AF z z) ?_));rintro _ g ⟨y,rfl,A,B,h,b⟩;have C:=h.size;refine Ef z (AE z BL) ?_;rintro _ D ⟨E,rfl,F,G,i,a⟩;have⟨o,I⟩:=Et h i;have b:=b.ext i;refine Ro 4 (Ef z (AE z BL) ?_);rintro _ J ⟨H,rfl,K,L,j,c⟩;have⟨p,M⟩:=Et o j;have⟨b,a⟩:=Be b a j;refine Ro 4 (Fl ZX AI b (Yl z (BQ z Bc) (Ef z (BV z c As z z) ?_)));rintro _ N ⟨k,q⟩;have⟨r,O⟩:=Eu p k;have⟨b,a⟩:=Hn b a k;have c:=q;refine Ro 4 (Fl ZQ AI b (Yl z (BQ z Bh) (Ef z (BV z c As z z) ?_)));rintro _ P ⟨l,s⟩;have⟨t,Q⟩:=Eu r l;have a:=a.upd l (by omega);have c:=s;refine Ro 4 (Yl z (BW z CK c Ag) (Ef z (BV z a Ag z z) ?_));rintro _ R ⟨u,v⟩;have⟨x,S⟩:=Eu t u;have a:=v;obtain rfl:=(Sy f);exact Ro 3 (Su a CK Ag ⟨_,z,z,x⟩)
def LB(n:Nat)(a0:List AX)(k0:Int->(List AX)->Option (List AX)):Nat->Int->(List AX)->Option (List AX)
 |0,_,_=>none
 |m+1,a,b=>cond (decide (a<(a0.length:Int))) ((AG a0 a).bind fun d=>(Vt n d).bind fun c=>(AG b a).bind fun e=>LB n a0 k0 m (wrap .i64 (a+1)) ((b.set (a).toNat c))) (k0 a b)
def TJ(n:Nat)(a0:List AX):Option (List AX):=(ME ((a0.length:Int)) 16).bind fun b=>LB n a0 (fun c a=>some a) n 0 (List.replicate b ((AX.mk 0 0)))
theorem oL{h i:List AX}{j:Value}(hF:TJ n h=some i)(hH:H<=w.heap.size)(k:AP C_Span w H h j):
 Calls prog 41 [j].toArray w (Di fun x m=>∃o,x=o∧AA C_Span m w.heap.size (Iv 0 0) 49 i o∧AD w m):=by
 have y:=AD.refl w;unfold TJ at hF;refine AB func41 z ntmps41 (Rc 8 (Yl z (CJ z aR (k.oj y)) ?_));have⟨A,B,hF⟩:=AM hF;refine Ef z (CM (c:=C_Span) (z:=(AX.mk 0 0)) z Ep vJ z z z B z z (fun _=>PZ)) ?_;rintro p C ⟨D,q,R,S,r,E⟩;have T:=r.size;have F:=BP q;clear q;refine Ro 10 (WC.loopD (fun c e wl=>∃(a:Int) (b:List AX),Kn 23 [(0,j),(3,p),(4,.i a)] e∧AD w wl∧C.heap.size<=wl.heap.size∧AA C_Span wl (D) (Iv 0 0) 49 b p∧LB n h (fun a b=>(some b)) c a b=some i) n ?_ ?_)
 ·intro e hK;exact⟨0,(List.replicate A ((AX.mk 0 0))),hK.sub z,r,nr,E,hF⟩
 ·rintro c e U ⟨a,b,hK,f,V,d,hF⟩;refine CB hK ?_;rcases c with _|c;exact CA hF;rw [LB.eq_2]at hF;refine Rc 5 (Yl z (CJ z aR (k.oj f)) (Ro 3 (Wc z hF ?_ ?_)))
  ·intro hF;refine Rc 9 (Ix hF (k.oj f) aR Ta ?_);rintro s W hF _ ⟨X,Y,Z,rfl,a0,G,I⟩;obtain rfl:=BM G;refine Yl z (CI (us:=[.i s.Early,.i s.Late]) z Zj I Ta) ?_;refine Cg hF kH (fun _ l=>(yC l:)) ?_;rintro g hF _ b0 ⟨rfl,t⟩;have⟨J,c0⟩:=Et f t;have d:=d.ext t;refine Io hF d Ep Ag ?_;rintro d0 K hF _ ⟨e0,f0,rfl,u,v,L⟩;have M:=v;obtain rfl:=BM v;refine Ef z (Al (c:=C_Span) (us':=[.i g.Early,.i g.Late]) (y':=g) 0 _ z z z d u K z Ag z M L z z PZ (fun N l=>absurd l.2 (Nat.not_lt_zero N))) ?_;rintro _ g0 ⟨O,P⟩;have⟨Q,h0⟩:=Eu J O (by have:=F _ u;omega);refine Ro 9 ?_;intro e hK;exact⟨c,nr,(wrap .i64 (a+1)),((b.set (a).toNat g)),hK.sub z,Q,(by omega),P,hF⟩
  ·intro hF;cases BK hF;exact Rc 12 (Ne z z ⟨_,z,_,z,AA.base d,f⟩)
def TG(n:Nat)(a0:Am):Option Am:=(Wb n a0.Reached).bind fun b=>(TJ n a0.Arrival).bind fun a=>(TJ n a0.Slew).bind fun c=>some ((Am.mk b a c))
theorem UB{k l:Am}{s t u:Value}(g:TG n k=some l)(Z:H<=w.heap.size)(L:AP Aq w H k.Reached s)(M:AP C_Span w H k.Arrival t)(N:AP C_Span w H k.Slew u):
 Calls prog 13 [.agg #[s,t,u]].toArray w (Di fun O m=>∃o p q,O= .agg #[o,p,q]∧AA Aq m w.heap.size (Iv 0 0) 4 l.Reached o∧AA C_Span m w.heap.size (Iv 0 0) 49 l.Arrival p∧AA C_Span m w.heap.size (Iv 0 0) 49 l.Slew q∧No p o∧No q o∧No q p∧AD w m):=by
 unfold TG at g;refine AB func13 z ntmps13 (Rc 2 (Ef z (AF z z) ?_));rintro _ a0 ⟨b0,rfl,c0,d0,v,c⟩;have e0:=v.size;refine Ef z (AE z Za) ?_;rintro _ f0 ⟨g0,rfl,h0,i0,x,a⟩;have⟨P,j0⟩:=Et v x;have c:=c.ext x;refine Ro 4 (Ef z (AE z Za) ?_);rintro _ k0 ⟨l0,rfl,m0,n0,y,d⟩;have⟨A,o0⟩:=Et P y;have⟨c,a⟩:=Be c a y;refine Ro 4 (Fl Uy Dj c ?_);refine Cg g kO (fun _ i=>(uA i (by omega) (L.oj A):)) ?_;rintro p0 g q0 r0 ⟨_,rfl,b,B⟩;have⟨Q,s0⟩:=Et A B;have⟨c,a,d⟩:=Cc c a d B;have h:=AA.blk b;refine Yl z (BQ z Fp) (Ef z (BO z z z d kG b.cells b.one z) ?_);rintro _ t0 ⟨C,R⟩;have⟨D,u0⟩:=Eu Q C;have⟨c,a,b⟩:=Ee c a (Az b h) C;have d:=R;refine Ro 4 (Fl Ul PV c ?_);refine Cg g cK (fun _ i=>(oL i (by omega) (M.oj D):)) ?_;rintro v0 g w0 x0 ⟨_,rfl,e,E⟩;have⟨S,y0⟩:=Et D E;have⟨c,a,d,b⟩:=DC c a d b E;have j:=AA.blk e;refine Yl z (BQ z GZ) (Ef z (BO z z z d Zu e.cells e.one z) ?_);rintro _ z0 ⟨F,T⟩;have⟨G,A0⟩:=Eu S F;have⟨c,a,b,e⟩:=NO c a (Az b h) (Az e j) F;have d:=T;refine Ro 4 (Fl VL PV c ?_);refine Cg g cK (fun _ i=>(oL i (by omega) (N.oj G):)) ?_;rintro B0 g C0 D0 ⟨_,rfl,f,I⟩;have⟨U,E0⟩:=Et G I;have⟨a,d,b,e⟩:=DC a d b e I;have r:=AA.blk f;refine Yl z (BQ z Ew) (Ef z (BO z z z d Zu f.cells f.one z) ?_);rintro _ F0 ⟨J,V⟩;have⟨W,G0⟩:=Eu U J;have⟨a,b,e,f⟩:=NO a (Az b h) (Az e j) (Az f r) J;have d:=V;refine Ro 4 (Yl z (BW z LP d JH) (Ef z (BV z a JH (AC b.one (AC e.one (AC f.one BH))) z) ?_));rintro _ H0 ⟨K,X⟩;have⟨Y,I0⟩:=Eu W K;have⟨b,e,f⟩:=Ee (Az b h) (Az e j) (Az f r) K;have a:=X;cases BK g;exact Ro 3 (Su a LP JH ⟨_,z,_,_,_,z,AA.base b,AA.base e,AA.base f,(No.of j h),(No.of r h),(No.of r j),Y⟩)
def VV(n:Nat)(a0:AJ):Option AJ:=(Vt n a0.Required).bind fun a=>some ((AJ.mk a0.Node a))
theorem AaO{b e:AJ}(f:VV n b=some e):
 Calls prog 42 [.agg #[.i b.Node,.i b.Required.Early,.i b.Required.Late]].toArray w (Di fun m g=>m= .agg #[.i e.Node,.i e.Required.Early,.i e.Required.Late]∧AD w g):=by
 unfold VV at f;refine AB func42 z ntmps42 (Rc 2 (Ef z (AF z z) ?_));rintro _ g ⟨B,rfl,C,D,h,c⟩;have E:=h.size;refine Ef z (AE z CV) ?_;rintro _ F ⟨G,rfl,I,J,i,a⟩;have⟨o,K⟩:=Et h i;have c:=c.ext i;refine Ro 4 (Ef z (AE z CV) ?_);rintro _ L ⟨M,rfl,N,O,j,d⟩;have⟨p,P⟩:=Et o j;have⟨c,a⟩:=Be c a j;refine Ro 4 (Fl dN AI c (Yl z (BQ z FR) (Ef z (BV z d As z z) ?_)));rintro _ Q ⟨k,q⟩;have⟨r,R⟩:=Eu p k;have⟨c,a⟩:=Hn c a k;have d:=q;refine Ro 4 (Yl z (BQ z bX) (Yl z (CI (us:=[.i b.Required.Early,.i b.Required.Late]) z Zj (AR.sub (Ae.cells c) 1 2:AR _ _ _ [.i b.Required.Early,.i b.Required.Late]) Ta) ?_));refine Cg f kH (fun _ s=>(yC s:)) ?_;rintro S f _ T ⟨rfl,H⟩;have⟨t,U⟩:=Et r H;have⟨a,d⟩:=Be a d H;refine Yl z (BQ z EO) (Ef z (BV z d Ag z z) ?_);rintro _ V ⟨l,u⟩;have⟨v,W⟩:=Eu t l;have a:=a.upd l (by omega);have d:=u;refine Ro 4 (Yl z (BW z DJ d BC) (Ef z (BV z a BC z z) ?_));rintro _ X ⟨x,y⟩;have⟨A,Y⟩:=Eu v x;have a:=y;cases BK f;exact Ro 3 (Su a DJ BC ⟨_,z,z,A⟩)
def Mj(n:Nat)(a0:List AJ)(k0:Int->(List AJ)->Option (List AJ)):Nat->Int->(List AJ)->Option (List AJ)
 |0,_,_=>none
 |m+1,a,b=>cond (decide (a<(a0.length:Int))) ((AG a0 a).bind fun d=>(VV n d).bind fun c=>(AG b a).bind fun e=>Mj n a0 k0 m (wrap .i64 (a+1)) ((b.set (a).toNat c))) (k0 a b)
def pW(n:Nat)(a0:List AJ):Option (List AJ):=(ME ((a0.length:Int)) 24).bind fun b=>Mj n a0 (fun c a=>some a) n 0 (List.replicate b ((AJ.mk 0 ((AX.mk 0 0)))))
theorem kN{h i:List AJ}{j:Value}(hF:pW n h=some i)(hH:H<=w.heap.size)(k:AP C_Target w H h j):
 Calls prog 14 [j].toArray w (Di fun x o=>∃p,x=p∧AA C_Target o w.heap.size (Iv 0 0) 51 i p∧AD w o):=by
 have y:=AD.refl w;unfold pW at hF;refine AB func14 z ntmps14 (Rc 8 (Yl z (CJ z cY (k.oj y)) ?_));have⟨A,B,hF⟩:=AM hF;refine Ef z (CM (c:=C_Target) (z:=(AJ.mk 0 ((AX.mk 0 0)))) z HY vS z z z B z z (fun _=>NL)) ?_;rintro q C ⟨D,r,R,S,s,E⟩;have T:=s.size;have F:=BP r;clear r;refine Ro 10 (WC.loopD (fun c f wl=>∃(a:Int) (b:List AJ),Kn 23 [(0,j),(3,q),(4,.i a)] f∧AD w wl∧C.heap.size<=wl.heap.size∧AA C_Target wl (D) (Iv 0 0) 51 b q∧Mj n h (fun a b=>(some b)) c a b=some i) n ?_ ?_)
 ·intro f hK;exact⟨0,(List.replicate A ((AJ.mk 0 ((AX.mk 0 0))))),hK.sub z,s,nr,E,hF⟩
 ·rintro c f U ⟨a,b,hK,g,V,d,hF⟩;refine CB hK ?_;rcases c with _|c;exact CA hF;rw [Mj.eq_2]at hF;refine Rc 5 (Yl z (CJ z cY (k.oj g)) (Ro 3 (Wc z hF ?_ ?_)))
  ·intro hF;refine Rc 9 (Ix hF (k.oj g) cY Xr ?_);rintro l W hF _ ⟨X,Y,Z,rfl,a0,G,I⟩;obtain rfl:=Bn G;refine Yl z (CI (us:=[.i l.Node,.i l.Required.Early,.i l.Required.Late]) z lM I Xr) ?_;refine Cg hF wK (fun _ m=>(AaO m:)) ?_;rintro e hF _ b0 ⟨rfl,t⟩;have⟨J,c0⟩:=Et g t;have d:=d.ext t;refine Io hF d HY BC ?_;rintro d0 K hF _ ⟨e0,f0,rfl,u,v,L⟩;have M:=v;obtain rfl:=Bn v;refine Ef z (Al (c:=C_Target) (us':=[.i e.Node,.i e.Required.Early,.i e.Required.Late]) (y':=e) 0 _ z z z d u K z BC z M L z z NL (fun N m=>absurd m.2 (Nat.not_lt_zero N))) ?_;rintro _ g0 ⟨O,P⟩;have⟨Q,h0⟩:=Eu J O (by have:=F _ u;omega);refine Ro 9 ?_;intro f hK;exact⟨c,nr,(wrap .i64 (a+1)),((b.set (a).toNat e)),hK.sub z,Q,(by omega),P,hF⟩
  ·intro hF;cases BK hF;exact Rc 12 (Ne z z ⟨_,z,_,z,AA.base d,g⟩)
def TK(n:Nat)(a0:BA):Option BA:=(Wb n a0.Bound).bind fun a=>(TJ n a0.Required).bind fun b=>some ((BA.mk a b))
theorem QT{h i:BA}{p q:Value}(f:TK n h=some i)(P:H<=w.heap.size)(D:AP Aq w H h.Bound p)(E:AP C_Span w H h.Required q):
 Calls prog 15 [.agg #[p,q]].toArray w (Di fun F j=>∃k l,F= .agg #[k,l]∧AA Aq j w.heap.size (Iv 0 0) 4 i.Bound k∧AA C_Span j w.heap.size (Iv 0 0) 49 i.Required l∧No l k∧AD w j):=by
 unfold TK at f;refine AB func15 z ntmps15 (Rc 2 (Ef z (AF z z) ?_));rintro _ Q ⟨R,rfl,S,T,r,c⟩;have U:=r.size;refine Ef z (AE z YD) ?_;rintro _ V ⟨W,rfl,X,Y,s,a⟩;have⟨G,Z⟩:=Et r s;have c:=c.ext s;refine Ro 4 (Ef z (AE z YD) ?_);rintro _ a0 ⟨b0,rfl,c0,d0,t,d⟩;have⟨u,e0⟩:=Et G t;have⟨c,a⟩:=Be c a t;refine Ro 4 (Fl Ur Dj c ?_);refine Cg f kO (fun _ m=>(uA m (by omega) (D.oj u):)) ?_;rintro f0 f g0 h0 ⟨_,rfl,b,v⟩;have⟨I,i0⟩:=Et u v;have⟨c,a,d⟩:=Cc c a d v;have g:=AA.blk b;refine Yl z (BQ z FL) (Ef z (BO z z z d kG b.cells b.one z) ?_);rintro _ j0 ⟨x,J⟩;have⟨y,k0⟩:=Eu I x;have⟨c,a,b⟩:=Ee c a (Az b g) x;have d:=J;refine Ro 4 (Fl Ut PV c ?_);refine Cg f cK (fun _ m=>(oL m (by omega) (E.oj y):)) ?_;rintro l0 f m0 n0 ⟨_,rfl,e,A⟩;have⟨K,o0⟩:=Et y A;have⟨a,d,b⟩:=Cc a d b A;have o:=AA.blk e;refine Yl z (BQ z ED) (Ef z (BO z z z d Zu e.cells e.one z) ?_);rintro _ p0 ⟨B,L⟩;have⟨M,q0⟩:=Eu K B;have⟨a,b,e⟩:=Ee a (Az b g) (Az e o) B;have d:=L;refine Ro 4 (Yl z (BW z NJ d LI) (Ef z (BV z a LI (AC b.one (AC e.one BH)) z) ?_));rintro _ r0 ⟨C,N⟩;have⟨O,s0⟩:=Eu M C;have⟨b,e⟩:=Hn (Az b g) (Az e o) C;have a:=N;cases BK f;exact Ro 3 (Su a NJ LI ⟨_,z,_,_,z,AA.base b,AA.base e,(No.of o g),O⟩)
def RY(n:Nat)(a0:AX)(a1:AX):Option Bool:=cond (a0.Early !=a1.Early) (some false) (cond (a0.Late !=a1.Late) (some false) (some true))
theorem sZ{c d:AX}{f:Bool}(a:RY n c d=some f):
 Calls prog 47 [.agg #[.i c.Early,.i c.Late],.agg #[.i d.Early,.i d.Late]].toArray w (Ak (.bool f) w):=by
 unfold RY at a;refine AB func47 z ntmps47 (Rc 2 (Ef z (AF z z) ?_));rintro _ i ⟨j,rfl,k,l,g,b⟩;have m:=g.size;refine Ef z (AF z z) ?_;rintro _ o ⟨p,rfl,q,r,H,h⟩;have⟨e,s⟩:=Et g H;have b:=b.ext H;refine Ro 6 (Fl Bc AI b (Fl Bc AI h (Ro 3 (Wt a e ?_))));intro a;refine Rc 5 (Fl Bh AI b (Fl Bh AI h (Ro 3 (Wt a e ?_))));intro a;exact ID a e
def Py(n:Nat)(a0:AJ)(a1:AJ):Option Bool:=cond (a0.Node !=a1.Node) (some false) ((RY n a0.Required a1.Required).bind fun a=>cond (!a) (some false) (some true))
theorem tY{a b:AJ}{e:Bool}(c:Py n a b=some e):
 Calls prog 17 [.agg #[.i a.Node,.i a.Required.Early,.i a.Required.Late],.agg #[.i b.Node,.i b.Required.Early,.i b.Required.Late]].toArray w (Ak (.bool e) w):=by
 unfold Py at c;refine AB func17 z ntmps17 (Rc 2 (Ef z (AF z z) ?_));rintro _ j ⟨k,rfl,l,m,H,d⟩;have o:=H.size;refine Ef z (AF z z) ?_;rintro _ p ⟨q,rfl,r,s,f,g⟩;have⟨h,t⟩:=Et H f;have d:=d.ext f;refine Ro 6 (Fl FR AI d (Fl FR AI g (Ro 3 (Wt c h ?_))));intro c;refine Rc 5 (Yl z (BQ z EO) (Yl z (CI (us:=[.i a.Required.Early,.i a.Required.Late]) z CK (AR.sub (Ae.cells d) 1 2:AR _ _ _ [.i a.Required.Early,.i a.Required.Late]) Ag) (Yl z (BQ z EO) (Yl z (CI (us:=[.i b.Required.Early,.i b.Required.Late]) z CK (AR.sub (Ae.cells g) 1 2:AR _ _ _ [.i b.Required.Early,.i b.Required.Late]) Ag) ?_))));refine Cs c h lA (fun _=>sZ) ?_;rintro u c v x ⟨i,y⟩;refine Ro 3 (Wt c i ?_);intro c;exact ID c i
def Mg(a0:List Int)(a1:List Int)(k0:Int->Option Bool):Nat->Int->Option Bool
 |0,_=>none
 |m+1,a=>cond (decide (a<(a0.length:Int))) ((AG a0 a).bind fun c=>(AG a1 a).bind fun b=>cond (c !=b) (some false) (Mg a0 a1 k0 m (wrap .i64 (a+1)))) (k0 a)
def Ui(n:Nat)(a0:List Int)(a1:List Int):Option Bool:=cond (((a0.length:Int)) !=((a1.length:Int))) (some false) (Mg a0 a1 (fun a=>some true) n 0)
theorem eA{g h:List Int}{i:Bool}{j k:Value}(a:Ui n g h=some i)(r:H<=w.heap.size)(l:AP (AH .i64) w H g j)(o:AP (AH .i64) w H h k):
 Calls prog 19 [j,k].toArray w (Ak (.bool i) w):=by
 have m:=AD.refl w;unfold Ui at a;refine AB func19 z ntmps19 (Rc 9 (Yl z (CJ z Ab (l.oj m)) (Ro 1 (Yl z (CJ z Ab (o.oj m)) (Ro 3 (Wt a m ?_))))));intro a;refine Rc 9 (WC.loopD (fun c f wl=>∃d:Int,Kn 26 [(0,j),(1,k),(5,.i d)] f∧AD w wl∧Mg g h (fun d=>(some true)) c d=some i) n ?_ ?_)
 ·intro f e;exact⟨0,e.sub z,AD.refl _,a⟩
 ·rintro c f s ⟨d,e,b,a⟩;refine CB e ?_;rcases c with _|c;exact CA a;rw [Mg.eq_2]at a;have t:=b.size;refine Rc 5 (Yl z (CJ z Ab (l.oj b)) (Ro 3 (Wf a b ?_)));intro a;refine Rc 5 (Ba Tryz.hm (Qr 2 (NZ a (l.oj b) Ab As AI ?_)));rintro u a _;refine Qr 2 (NZ a (o.oj b) Ab As AI ?_);rintro v a _;refine Qr 1 ?_;refine QL.done fun x p=>?_;have⟨q,y⟩:=Et b p;refine Re 1 (Wt a q ?_);intro a;refine Rc 9 ?_;intro f e;exact⟨c,nr,(wrap .i64 (d+1)),e.sub z,(AD.trans b p),a⟩
def UJ(n:Nat)(a0:BR)(a1:BR):Option Bool:=cond (a0.Name.toList !=a1.Name.toList) (some false) (cond (a0.Dir !=a1.Dir) (some false) (cond (a0.Cap !=a1.Cap) (some false) (cond (a0.Clock !=a1.Clock) (some false) (some true))))
theorem zK{c d:BR}{g:Bool}(a:UJ n c d=some g):
 Calls prog 210 [.agg #[.string c.Name,.i c.Dir,.i c.Cap,.bool c.Clock],.agg #[.string d.Name,.i d.Dir,.i d.Cap,.bool d.Clock]].toArray w (Ak (.bool g) w):=by
 unfold UJ at a;refine AB func210 z ntmps210 (Rc 2 (Ef z (AF z z) ?_));rintro _ i ⟨j,rfl,k,l,h,b⟩;have m:=h.size;refine Ef z (AF z z) ?_;rintro _ o ⟨p,rfl,q,r,H,f⟩;have⟨e,s⟩:=Et h H;have b:=b.ext H;refine Ro 6 (Fl Gm Dn b (Fl Gm Dn f (Ro 3 (Wt a e ?_))));intro a;refine Rc 5 (Fl Gh AI b (Fl Gh AI f (Ro 3 (Wt a e ?_))));intro a;refine Rc 5 (Fl FW AI b (Fl FW AI f (Ro 3 (Wt a e ?_))));intro a;refine Rc 5 (Fl DE De b (Fl DE De f (Yl z (Ma z qI z z) (Ro 2 (Wt a e ?_)))));intro a;exact ID a e
def Ke(n:Nat)(a0:List BR)(a1:List BR)(k0:Int->Option Bool):Nat->Int->Option Bool
 |0,_=>none
 |m+1,a=>cond (decide (a<(a0.length:Int))) ((AG a0 a).bind fun d=>(AG a1 a).bind fun b=>(UJ n d b).bind fun c=>cond (!c) (some false) (Ke n a0 a1 k0 m (wrap .i64 (a+1)))) (k0 a)
def Zt(n:Nat)(a0:List BR)(a1:List BR):Option Bool:=cond (((a0.length:Int)) !=((a1.length:Int))) (some false) (Ke n a0 a1 (fun a=>some true) n 0)
theorem AdM{i j:List BR}{k:Bool}{l m:Value}(a:Zt n i j=some k)(A:H<=w.heap.size)(o:AP C_Pin w H i l)(q:AP C_Pin w H j m):
 Calls prog 180 [l,m].toArray w (Ak (.bool k) w):=by
 have p:=AD.refl w;unfold Zt at a;refine AB func180 z ntmps180 (Rc 9 (Yl z (CJ z DM (o.oj p)) (Ro 1 (Yl z (CJ z DM (q.oj p)) (Ro 3 (Wt a p ?_))))));intro a;refine Rc 9 (WC.loopD (fun c f wl=>∃d:Int,Kn 27 [(0,l),(1,m),(5,.i d)] f∧AD w wl∧Ke n i j (fun d=>(some true)) c d=some k) n ?_ ?_)
 ·intro f e;exact⟨0,e.sub z,AD.refl _,a⟩
 ·rintro c f B ⟨d,e,b,a⟩;refine CB e ?_;rcases c with _|c;exact CA a;rw [Ke.eq_2]at a;have C:=b.size;refine Rc 5 (Yl z (CJ z DM (o.oj b)) (Ro 3 (Wf a b ?_)));intro a;refine Rc 5 (Ba Tryz.hm (Qr 2 (Iq a (o.oj b) DM CU ?_)));rintro g D a _ ⟨E,F,G,rfl,I,s,t⟩;obtain rfl:=Bm s;refine Qy z (CI (us:=[.string g.Name,.i g.Dir,.i g.Cap,.bool g.Clock]) z Jc t CU) (Qr 2 (Iq a (q.oj b) DM CU ?_));rintro h J a _ ⟨K,L,M,rfl,N,u,v⟩;obtain rfl:=Bm u;refine Qy z (CI (us:=[.string h.Name,.i h.Dir,.i h.Cap,.bool h.Clock]) z Jc v CU) ?_;have⟨O,x,a⟩:=AM a;refine Ql z (HG z pG fun w' hw'=>(zK x:)) ?_;refine Qr 1 ?_;refine QL.done fun P r=>?_;have⟨y,Q⟩:=Et b r;refine Re 1 (Wt a y ?_);intro a;refine Rc 9 ?_;intro f e;exact⟨c,nr,(wrap .i64 (d+1)),e.sub z,(AD.trans b r),a⟩
def Tv(n:Nat)(a0:Aa)(a1:Aa):Option Bool:=(Ui n a0.Slews a1.Slews).bind fun b=>cond (!b) (some false) ((Ui n a0.Loads a1.Loads).bind fun c=>cond (!c) (some false) ((Ui n a0.Values a1.Values).bind fun a=>cond (!a) (some false) (some true)))
theorem AfN{e f:Aa}{j:Bool}{k l m o p q:Value}(a:Tv n e f=some j)(E:H<=w.heap.size)(u:AP (AH .i64) w H e.Slews k)(v:AP (AH .i64) w H e.Loads l)(x:AP (AH .i64) w H e.Values m)(y:AP (AH .i64) w H f.Slews o)(A:AP (AH .i64) w H f.Loads p)(B:AP (AH .i64) w H f.Values q):
 Calls prog 243 [.agg #[k,l,m],.agg #[o,p,q]].toArray w (Ak (.bool j) w):=by
 unfold Tv at a;refine AB func243 z ntmps243 (Rc 2 (Ef z (AF z z) ?_));rintro _ F ⟨G,rfl,I,J,r,b⟩;have K:=r.size;refine Ef z (AF z z) ?_;rintro _ L ⟨M,rfl,N,O,s,c⟩;have⟨i,P⟩:=Et r s;have b:=b.ext s;refine Ro 6 (Fl FJ Ah b (Fl FJ Ah c ?_));refine Cs a i LQ (fun _ d=>(eA d (by omega) (u.oj i) (y.oj i):)) ?_;rintro Q a R C ⟨g,S⟩;have⟨b,c⟩:=Be b c C;refine Ro 3 (Wt a g ?_);intro a;refine Rc 5 (Fl EY Ah b (Fl EY Ah c ?_));refine Cs a g LQ (fun _ d=>(eA d (by omega) (v.oj g) (A.oj g):)) ?_;rintro T a U D ⟨h,V⟩;have⟨b,c⟩:=Be b c D;refine Ro 3 (Wt a h ?_);intro a;refine Rc 5 (Fl CY Ah b (Fl CY Ah c ?_));refine Cs a h LQ (fun _ d=>(eA d (by omega) (x.oj h) (B.oj h):)) ?_;rintro W a X Y ⟨t,Z⟩;refine Ro 3 (Wt a t ?_);intro a;exact ID a t
def Kz(n:Nat)(a0:List Aa)(a1:List Aa)(k0:Int->Option Bool):Nat->Int->Option Bool
 |0,_=>none
 |m+1,a=>cond (decide (a<(a0.length:Int))) ((AG a0 a).bind fun d=>(AG a1 a).bind fun b=>(Tv n d b).bind fun c=>cond (!c) (some false) (Kz n a0 a1 k0 m (wrap .i64 (a+1)))) (k0 a)
def Vo(n:Nat)(a0:List Aa)(a1:List Aa):Option Bool:=cond (((a0.length:Int)) !=((a1.length:Int))) (some false) (Kz n a0 a1 (fun a=>some true) n 0)
theorem yA{g h:List Aa}{i:Bool}{j k:Value}(a:Vo n g h=some i)(hH:H<=w.heap.size)(l:AP C_Table w H g j)(o:AP C_Table w H h k):
 Calls prog 227 [j,k].toArray w (Ak (.bool i) w):=by
 have m:=AD.refl w;unfold Vo at a;refine AB func227 z ntmps227 (Rc 9 (Yl z (CJ z Er (l.oj m)) (Ro 1 (Yl z (CJ z Er (o.oj m)) (Ro 3 (Wt a m ?_))))));intro a;refine Rc 9 (WC.loopD (fun c f wl=>∃d:Int,Kn 27 [(0,j),(1,k),(5,.i d)] f∧AD w wl∧Kz n g h (fun d=>(some true)) c d=some i) n ?_ ?_)
 ·intro f e;exact⟨0,e.sub z,AD.refl _,a⟩
 ·rintro c f L ⟨d,e,b,a⟩;refine CB e ?_;rcases c with _|c;exact CA a;rw [Kz.eq_2]at a;have M:=b.size;refine Rc 5 (Yl z (CJ z Er (l.oj b)) (Ro 3 (Wf a b ?_)));intro a;refine Rc 5 (Ba Tryz.hm (Qr 2 (Iq a (l.oj b) Er DS ?_)));rintro N O a _ ⟨P,Q,R,rfl,S,q,r⟩;obtain⟨s,t,u,rfl,v,x,y⟩:=Ca q;refine Qy z (CI (us:=[s,t,u]) z GO r DS) (Qr 2 (Iq a (o.oj b) Er DS ?_));rintro T U a _ ⟨V,W,X,rfl,Y,A,B⟩;obtain⟨C,D,E,rfl,F,G,I⟩:=Ca A;refine Qy z (CI (us:=[C,D,E]) z GO B DS) ?_;have⟨Z,J,a⟩:=AM a;refine Ql z (HG z oW fun w' hw'=>(AfN J (Nat.le_trans (by omega) (hw').size) (v.old hw' (by omega)) (x.old hw' (by omega)) (y.old hw' (by omega)) (F.old hw' (by omega)) (G.old hw' (by omega)) (I.old hw' (by omega)):)) ?_;refine Qr 1 ?_;refine QL.done fun a0 p=>?_;have⟨K,b0⟩:=Et b p;refine Re 1 (Wt a K ?_);intro a;refine Rc 9 ?_;intro f e;exact⟨c,nr,(wrap .i64 (d+1)),e.sub z,(AD.trans b p),a⟩
def Tw(n:Nat)(a0:Ap)(a1:Ap):Option Bool:=cond (a0.Kind !=a1.Kind) (some false) (cond (a0.From !=a1.From) (some false) (cond (a0.To !=a1.To) (some false) (cond (a0.Sense !=a1.Sense) (some false) ((Vo n a0.Delay a1.Delay).bind fun a=>cond (!a) (some false) ((Vo n a0.Slew a1.Slew).bind fun b=>cond (!b) (some false) (some true))))))
theorem AaI{d e:Ap}{i:Bool}{j k l m:Value}(a:Tw n d e=some i)(x:H<=w.heap.size)(r:AP C_Table w H d.Delay j)(s:AP C_Table w H d.Slew k)(t:AP C_Table w H e.Delay l)(u:AP C_Table w H e.Slew m):
 Calls prog 211 [.agg #[.i d.Kind,.i d.From,.i d.To,.i d.Sense,j,k],.agg #[.i e.Kind,.i e.From,.i e.To,.i e.Sense,l,m]].toArray w (Ak (.bool i) w):=by
 unfold Tw at a;refine AB func211 z ntmps211 (Rc 2 (Ef z (AF z z) ?_));rintro _ y ⟨A,rfl,B,C,o,b⟩;have D:=o.size;refine Ef z (AF z z) ?_;rintro _ E ⟨F,rfl,G,I,p,c⟩;have⟨f,J⟩:=Et o p;have b:=b.ext p;refine Ro 6 (Fl Cq AI b (Fl Cq AI c (Ro 3 (Wt a f ?_))));intro a;refine Rc 5 (Fl Cm AI b (Fl Cm AI c (Ro 3 (Wt a f ?_))));intro a;refine Rc 5 (Fl Bv AI b (Fl Bv AI c (Ro 3 (Wt a f ?_))));intro a;refine Rc 5 (Fl Co AI b (Fl Co AI c (Ro 3 (Wt a f ?_))));intro a;refine Rc 5 (Fl Dy Ct b (Fl Dy Ct c ?_));refine Cs a f cX (fun _ h=>(yA h (by omega) (r.oj f) (t.oj f):)) ?_;rintro K a L v ⟨g,M⟩;have⟨b,c⟩:=Be b c v;refine Ro 3 (Wt a g ?_);intro a;refine Rc 5 (Fl Ds Ct b (Fl Ds Ct c ?_));refine Cs a g cX (fun _ h=>(yA h (by omega) (s.oj g) (u.oj g):)) ?_;rintro N a O P ⟨q,Q⟩;refine Ro 3 (Wt a q ?_);intro a;exact ID a q
def Ka(n:Nat)(a0:List Ap)(a1:List Ap)(k0:Int->Option Bool):Nat->Int->Option Bool
 |0,_=>none
 |m+1,a=>cond (decide (a<(a0.length:Int))) ((AG a0 a).bind fun d=>(AG a1 a).bind fun b=>(Tw n d b).bind fun c=>cond (!c) (some false) (Ka n a0 a1 k0 m (wrap .i64 (a+1)))) (k0 a)
def Xb(n:Nat)(a0:List Ap)(a1:List Ap):Option Bool:=cond (((a0.length:Int)) !=((a1.length:Int))) (some false) (Ka n a0 a1 (fun a=>some true) n 0)
theorem AbJ{i j:List Ap}{k:Bool}{l m:Value}(a:Xb n i j=some k)(J:H<=w.heap.size)(o:AP C_Arc w H i l)(q:AP C_Arc w H j m):
 Calls prog 181 [l,m].toArray w (Ak (.bool k) w):=by
 have p:=AD.refl w;unfold Xb at a;refine AB func181 z ntmps181 (Rc 9 (Yl z (CJ z DK (o.oj p)) (Ro 1 (Yl z (CJ z DK (q.oj p)) (Ro 3 (Wt a p ?_))))));intro a;refine Rc 9 (WC.loopD (fun c f wl=>∃d:Int,Kn 27 [(0,l),(1,m),(5,.i d)] f∧AD w wl∧Ka n i j (fun d=>(some true)) c d=some k) n ?_ ?_)
 ·intro f e;exact⟨0,e.sub z,AD.refl _,a⟩
 ·rintro c f K ⟨d,e,b,a⟩;refine CB e ?_;rcases c with _|c;exact CA a;rw [Ka.eq_2]at a;have L:=b.size;refine Rc 5 (Yl z (CJ z DK (o.oj b)) (Ro 3 (Wf a b ?_)));intro a;refine Rc 5 (Ba Tryz.hm (Qr 2 (Iq a (o.oj b) DK BZ ?_)));rintro g M a _ ⟨N,O,P,rfl,Q,s,t⟩;obtain⟨u,v,rfl,x,y⟩:=Bl s;refine Qy z (CI (us:=[.i g.Kind,.i g.From,.i g.To,.i g.Sense,u,v]) z EZ t BZ) (Qr 2 (Iq a (q.oj b) DK BZ ?_));rintro h R a _ ⟨S,T,U,rfl,V,A,B⟩;obtain⟨C,D,rfl,E,F⟩:=Bl A;refine Qy z (CI (us:=[.i h.Kind,.i h.From,.i h.To,.i h.Sense,C,D]) z EZ B BZ) ?_;have⟨W,G,a⟩:=AM a;refine Ql z (HG z rP fun w' hw'=>(AaI G (Nat.le_trans (by omega) (hw').size) (x.old hw' (by omega)) (y.old hw' (by omega)) (E.old hw' (by omega)) (F.old hw' (by omega)):)) ?_;refine Qr 1 ?_;refine QL.done fun X r=>?_;have⟨I,Y⟩:=Et b r;refine Re 1 (Wt a I ?_);intro a;refine Rc 9 ?_;intro f e;exact⟨c,nr,(wrap .i64 (d+1)),e.sub z,(AD.trans b r),a⟩
def UI(n:Nat)(a0:Af)(a1:Af):Option Bool:=cond (a0.Name.toList !=a1.Name.toList) (some false) (cond (a0.Kind !=a1.Kind) (some false) ((Zt n a0.Pins a1.Pins).bind fun b=>cond (!b) (some false) ((Xb n a0.Arcs a1.Arcs).bind fun c=>cond (!c) (some false) ((Ui n a0.Truth a1.Truth).bind fun a=>cond (!a) (some false) (cond (a0.Leak !=a1.Leak) (some false) (cond (a0.Energy !=a1.Energy) (some false) (some true)))))))
theorem AgA{d e:Af}{k:Bool}{l m o p q r:Value}(a:UI n d e=some k)(F:H<=w.heap.size)(u:AP C_Pin w H d.Pins l)(v:AP C_Arc w H d.Arcs m)(x:AP (AH .i64) w H d.Truth o)(y:AP C_Pin w H e.Pins p)(A:AP C_Arc w H e.Arcs q)(B:AP (AH .i64) w H e.Truth r):
 Calls prog 142 [.agg #[.string d.Name,.i d.Kind,l,m,o,.i d.Leak,.i d.Energy],.agg #[.string e.Name,.i e.Kind,p,q,r,.i e.Leak,.i e.Energy]].toArray w (Ak (.bool k) w):=by
 unfold UI at a;refine AB func142 z ntmps142 (Rc 2 (Ef z (AF z z) ?_));rintro _ G ⟨I,rfl,J,K,s,b⟩;have L:=s.size;refine Ef z (AF z z) ?_;rintro _ M ⟨N,rfl,O,P,t,c⟩;have⟨f,Q⟩:=Et s t;have b:=b.ext t;refine Ro 6 (Fl Fz Dn b (Fl Fz Dn c (Ro 3 (Wt a f ?_))));intro a;refine Rc 5 (Fl KD AI b (Fl KD AI c (Ro 3 (Wt a f ?_))));intro a;refine Rc 5 (Fl Bx DZ b (Fl Bx DZ c ?_));refine Cs a f rH (fun _ g=>(AdM g (by omega) (u.oj f) (y.oj f):)) ?_;rintro R a S C ⟨h,T⟩;have⟨b,c⟩:=Be b c C;refine Ro 3 (Wt a h ?_);intro a;refine Rc 5 (Fl CZ EM b (Fl CZ EM c ?_));refine Cs a h nS (fun _ g=>(AbJ g (by omega) (v.oj h) (A.oj h):)) ?_;rintro U a V D ⟨i,W⟩;have⟨b,c⟩:=Be b c D;refine Ro 3 (Wt a i ?_);intro a;refine Rc 5 (Fl EJ Ah b (Fl EJ Ah c ?_));refine Cs a i LQ (fun _ g=>(eA g (by omega) (x.oj i) (B.oj i):)) ?_;rintro X a Y E ⟨j,Z⟩;have⟨b,c⟩:=Be b c E;refine Ro 3 (Wt a j ?_);intro a;refine Rc 5 (Fl Jj AI b (Fl Jj AI c (Ro 3 (Wt a j ?_))));intro a;refine Rc 5 (Fl KM AI b (Fl KM AI c (Ro 3 (Wt a j ?_))));intro a;exact ID a j
def Kw(n:Nat)(a0:List Af)(a1:List Af)(k0:Int->Option Bool):Nat->Int->Option Bool
 |0,_=>none
 |m+1,a=>cond (decide (a<(a0.length:Int))) ((AG a0 a).bind fun d=>(AG a1 a).bind fun b=>(UI n d b).bind fun c=>cond (!c) (some false) (Kw n a0 a1 k0 m (wrap .i64 (a+1)))) (k0 a)
def ZP(n:Nat)(a0:List Af)(a1:List Af):Option Bool:=cond (((a0.length:Int)) !=((a1.length:Int))) (some false) (Kw n a0 a1 (fun a=>some true) n 0)
theorem AcF{i j:List Af}{k:Bool}{l m:Value}(a:ZP n i j=some k)(hH:H<=w.heap.size)(o:AP C_Cell w H i l)(q:AP C_Cell w H j m):
 Calls prog 96 [l,m].toArray w (Ak (.bool k) w):=by
 have p:=AD.refl w;unfold ZP at a;refine AB func96 z ntmps96 (Rc 9 (Yl z (CJ z GF (o.oj p)) (Ro 1 (Yl z (CJ z GF (q.oj p)) (Ro 3 (Wt a p ?_))))));intro a;refine Rc 9 (WC.loopD (fun c f wl=>∃d:Int,Kn 27 [(0,l),(1,m),(5,.i d)] f∧AD w wl∧Kw n i j (fun d=>(some true)) c d=some k) n ?_ ?_)
 ·intro f e;exact⟨0,e.sub z,AD.refl _,a⟩
 ·rintro c f N ⟨d,e,b,a⟩;refine CB e ?_;rcases c with _|c;exact CA a;rw [Kw.eq_2]at a;have O:=b.size;refine Rc 5 (Yl z (CJ z GF (o.oj b)) (Ro 3 (Wf a b ?_)));intro a;refine Rc 5 (Ba Tryz.hm (Qr 2 (Iq a (o.oj b) GF Bg ?_)));rintro g P a _ ⟨Q,R,S,rfl,T,s,t⟩;obtain⟨u,v,x,rfl,y,A,B⟩:=Bo s;refine Qy z (CI (us:=[.string g.Name,.i g.Kind,u,v,x,.i g.Leak,.i g.Energy]) z DA t Bg) (Qr 2 (Iq a (q.oj b) GF Bg ?_));rintro h U a _ ⟨V,W,X,rfl,Y,C,D⟩;obtain⟨E,F,G,rfl,I,J,K⟩:=Bo C;refine Qy z (CI (us:=[.string h.Name,.i h.Kind,E,F,G,.i h.Leak,.i h.Energy]) z DA D Bg) ?_;have⟨Z,L,a⟩:=AM a;refine Ql z (HG z lF fun w' hw'=>(AgA L (Nat.le_trans (by omega) (hw').size) (y.old hw' (by omega)) (A.old hw' (by omega)) (B.old hw' (by omega)) (I.old hw' (by omega)) (J.old hw' (by omega)) (K.old hw' (by omega)):)) ?_;refine Qr 1 ?_;refine QL.done fun a0 r=>?_;have⟨M,b0⟩:=Et b r;refine Re 1 (Wt a M ?_);intro a;refine Rc 9 ?_;intro f e;exact⟨c,nr,(wrap .i64 (d+1)),e.sub z,(AD.trans b r),a⟩
def YL(n:Nat)(a0:Ad)(a1:Ad):Option Bool:=(ZP n a0.Cells a1.Cells).bind fun a=>cond (!a) (some false) (some true)
theorem AaY{d e:Ad}{f:Bool}{g h:Value}(a:YL n d e=some f)(q:H<=w.heap.size)(l:AP C_Cell w H d.Cells g)(m:AP C_Cell w H e.Cells h):
 Calls prog 48 [.agg #[g],.agg #[h]].toArray w (Ak (.bool f) w):=by
 unfold YL at a;refine AB func48 z ntmps48 (Rc 2 (Ef z (AF z z) ?_));rintro _ r ⟨s,rfl,t,u,i,b⟩;have v:=i.size;refine Ef z (AF z z) ?_;rintro _ x ⟨y,rfl,A,B,j,o⟩;have⟨c,C⟩:=Et i j;have b:=b.ext j;refine Ro 6 (Fl Cx FC b (Fl Cx FC o ?_));refine Cs a c uE (fun _ p=>(AcF p (by omega) (l.oj c) (m.oj c):)) ?_;rintro D a E F ⟨k,G⟩;refine Ro 3 (Wt a k ?_);intro a;exact ID a k
def UN(n:Nat)(a0:AV)(a1:AV):Option Bool:=cond (a0.Name.toList !=a1.Name.toList) (some false) (cond (a0.Cell !=a1.Cell) (some false) ((Ui n a0.Nets a1.Nets).bind fun a=>cond (!a) (some false) (some true)))
theorem AdG{d e:AV}{g:Bool}{h i:Value}(a:UN n d e=some g)(q:H<=w.heap.size)(m:AP (AH .i64) w H d.Nets h)(o:AP (AH .i64) w H e.Nets i):
 Calls prog 143 [.agg #[.string d.Name,.i d.Cell,h],.agg #[.string e.Name,.i e.Cell,i]].toArray w (Ak (.bool g) w):=by
 unfold UN at a;refine AB func143 z ntmps143 (Rc 2 (Ef z (AF z z) ?_));rintro _ r ⟨s,rfl,t,u,j,b⟩;have v:=j.size;refine Ef z (AF z z) ?_;rintro _ x ⟨y,rfl,A,B,k,f⟩;have⟨c,C⟩:=Et j k;have b:=b.ext k;refine Ro 6 (Fl Jh Dn b (Fl Jh Dn f (Ro 3 (Wt a c ?_))));intro a;refine Rc 5 (Fl Du AI b (Fl Du AI f (Ro 3 (Wt a c ?_))));intro a;refine Rc 5 (Fl DW Ah b (Fl DW Ah f ?_));refine Cs a c LQ (fun _ p=>(eA p (by omega) (m.oj c) (o.oj c):)) ?_;rintro D a E F ⟨l,G⟩;refine Ro 3 (Wt a l ?_);intro a;exact ID a l
def Kp(n:Nat)(a0:List AV)(a1:List AV)(k0:Int->Option Bool):Nat->Int->Option Bool
 |0,_=>none
 |m+1,a=>cond (decide (a<(a0.length:Int))) ((AG a0 a).bind fun d=>(AG a1 a).bind fun b=>(UN n d b).bind fun c=>cond (!c) (some false) (Kp n a0 a1 k0 m (wrap .i64 (a+1)))) (k0 a)
def XK(n:Nat)(a0:List AV)(a1:List AV):Option Bool:=cond (((a0.length:Int)) !=((a1.length:Int))) (some false) (Kp n a0 a1 (fun a=>some true) n 0)
theorem AfT{g h:List AV}{i:Bool}{j k:Value}(a:XK n g h=some i)(E:H<=w.heap.size)(l:AP C_Instance w H g j)(o:AP C_Instance w H h k):
 Calls prog 97 [j,k].toArray w (Ak (.bool i) w):=by
 have m:=AD.refl w;unfold XK at a;refine AB func97 z ntmps97 (Rc 9 (Yl z (CJ z FA (l.oj m)) (Ro 1 (Yl z (CJ z FA (o.oj m)) (Ro 3 (Wt a m ?_))))));intro a;refine Rc 9 (WC.loopD (fun c f wl=>∃d:Int,Kn 27 [(0,j),(1,k),(5,.i d)] f∧AD w wl∧Kp n g h (fun d=>(some true)) c d=some i) n ?_ ?_)
 ·intro f e;exact⟨0,e.sub z,AD.refl _,a⟩
 ·rintro c f F ⟨d,e,b,a⟩;refine CB e ?_;rcases c with _|c;exact CA a;rw [Kp.eq_2]at a;have G:=b.size;refine Rc 5 (Yl z (CJ z FA (l.oj b)) (Ro 3 (Wf a b ?_)));intro a;refine Rc 5 (Ba Tryz.hm (Qr 2 (Iq a (l.oj b) FA By ?_)));rintro p I a _ ⟨J,K,L,rfl,M,s,t⟩;obtain⟨u,rfl,v⟩:=BJ s;refine Qy z (CI (us:=[.string p.Name,.i p.Cell,u]) z GN t By) (Qr 2 (Iq a (o.oj b) FA By ?_));rintro q N a _ ⟨O,P,Q,rfl,R,x,y⟩;obtain⟨A,rfl,B⟩:=BJ x;refine Qy z (CI (us:=[.string q.Name,.i q.Cell,A]) z GN y By) ?_;have⟨S,C,a⟩:=AM a;refine Ql z (HG z pT fun w' hw'=>(AdG C (Nat.le_trans (by omega) (hw').size) (v.old hw' (by omega)) (B.old hw' (by omega)):)) ?_;refine Qr 1 ?_;refine QL.done fun T r=>?_;have⟨D,U⟩:=Et b r;refine Re 1 (Wt a D ?_);intro a;refine Rc 9 ?_;intro f e;exact⟨c,nr,(wrap .i64 (d+1)),e.sub z,(AD.trans b r),a⟩
def Kj(a0:List ByteArray)(a1:List ByteArray)(k0:Int->Option Bool):Nat->Int->Option Bool
 |0,_=>none
 |m+1,a=>cond (decide (a<(a0.length:Int))) ((AG a0 a).bind fun c=>(AG a1 a).bind fun b=>cond (c.toList !=b.toList) (some false) (Kj a0 a1 k0 m (wrap .i64 (a+1)))) (k0 a)
def bN(n:Nat)(a0:List ByteArray)(a1:List ByteArray):Option Bool:=cond (((a0.length:Int)) !=((a1.length:Int))) (some false) (Kj a0 a1 (fun a=>some true) n 0)
theorem AbE{g h:List ByteArray}{i:Bool}{j k:Value}(a:bN n g h=some i)(r:H<=w.heap.size)(l:AP At w H g j)(o:AP At w H h k):
 Calls prog 98 [j,k].toArray w (Ak (.bool i) w):=by
 have m:=AD.refl w;unfold bN at a;refine AB func98 z ntmps98 (Rc 9 (Yl z (CJ z DN (l.oj m)) (Ro 1 (Yl z (CJ z DN (o.oj m)) (Ro 3 (Wt a m ?_))))));intro a;refine Rc 9 (WC.loopD (fun c f wl=>∃d:Int,Kn 26 [(0,j),(1,k),(5,.i d)] f∧AD w wl∧Kj g h (fun d=>(some true)) c d=some i) n ?_ ?_)
 ·intro f e;exact⟨0,e.sub z,AD.refl _,a⟩
 ·rintro c f s ⟨d,e,b,a⟩;refine CB e ?_;rcases c with _|c;exact CA a;rw [Kj.eq_2]at a;have t:=b.size;refine Rc 5 (Yl z (CJ z DN (l.oj b)) (Ro 3 (Wf a b ?_)));intro a;refine Rc 5 (Ba Tryz.hm (Qr 2 (NZ a (l.oj b) DN Jq Dn ?_)));rintro u a _;refine Qr 2 (NZ a (o.oj b) DN Jq Dn ?_);rintro v a _;refine Qr 1 ?_;refine QL.done fun x p=>?_;have⟨q,y⟩:=Et b p;refine Re 1 (Wt a q ?_);intro a;refine Rc 9 ?_;intro f e;exact⟨c,nr,(wrap .i64 (d+1)),e.sub z,(AD.trans b p),a⟩
def TQ(n:Nat)(a0:BS)(a1:BS):Option Bool:=cond (a0.Name.toList !=a1.Name.toList) (some false) (cond (a0.Dir !=a1.Dir) (some false) (cond (a0.Net !=a1.Net) (some false) (some true)))
theorem AbV{c d:BS}{g:Bool}(a:TQ n c d=some g):
 Calls prog 144 [.agg #[.string c.Name,.i c.Dir,.i c.Net],.agg #[.string d.Name,.i d.Dir,.i d.Net]].toArray w (Ak (.bool g) w):=by
 unfold TQ at a;refine AB func144 z ntmps144 (Rc 2 (Ef z (AF z z) ?_));rintro _ i ⟨j,rfl,k,l,h,b⟩;have m:=h.size;refine Ef z (AF z z) ?_;rintro _ o ⟨p,rfl,q,r,H,f⟩;have⟨e,s⟩:=Et h H;have b:=b.ext H;refine Ro 6 (Fl JM Dn b (Fl JM Dn f (Ro 3 (Wt a e ?_))));intro a;refine Rc 5 (Fl En AI b (Fl En AI f (Ro 3 (Wt a e ?_))));intro a;refine Rc 5 (Fl FE AI b (Fl FE AI f (Ro 3 (Wt a e ?_))));intro a;exact ID a e
def Kr(n:Nat)(a0:List BS)(a1:List BS)(k0:Int->Option Bool):Nat->Int->Option Bool
 |0,_=>none
 |m+1,a=>cond (decide (a<(a0.length:Int))) ((AG a0 a).bind fun d=>(AG a1 a).bind fun b=>(TQ n d b).bind fun c=>cond (!c) (some false) (Kr n a0 a1 k0 m (wrap .i64 (a+1)))) (k0 a)
def YR(n:Nat)(a0:List BS)(a1:List BS):Option Bool:=cond (((a0.length:Int)) !=((a1.length:Int))) (some false) (Kr n a0 a1 (fun a=>some true) n 0)
theorem AeN{g h:List BS}{i:Bool}{j k:Value}(a:YR n g h=some i)(A:H<=w.heap.size)(l:AP C_Port w H g j)(q:AP C_Port w H h k):
 Calls prog 99 [j,k].toArray w (Ak (.bool i) w):=by
 have m:=AD.refl w;unfold YR at a;refine AB func99 z ntmps99 (Rc 9 (Yl z (CJ z GE (l.oj m)) (Ro 1 (Yl z (CJ z GE (q.oj m)) (Ro 3 (Wt a m ?_))))));intro a;refine Rc 9 (WC.loopD (fun c f wl=>∃d:Int,Kn 27 [(0,j),(1,k),(5,.i d)] f∧AD w wl∧Kr n g h (fun d=>(some true)) c d=some i) n ?_ ?_)
 ·intro f e;exact⟨0,e.sub z,AD.refl _,a⟩
 ·rintro c f B ⟨d,e,b,a⟩;refine CB e ?_;rcases c with _|c;exact CA a;rw [Kr.eq_2]at a;have C:=b.size;refine Rc 5 (Yl z (CJ z GE (l.oj b)) (Ro 3 (Wf a b ?_)));intro a;refine Rc 5 (Ba Tryz.hm (Qr 2 (Iq a (l.oj b) GE DB ?_)));rintro o D a _ ⟨E,F,G,rfl,I,s,t⟩;obtain rfl:=CE s;refine Qy z (CI (us:=[.string o.Name,.i o.Dir,.i o.Net]) z MA t DB) (Qr 2 (Iq a (q.oj b) GE DB ?_));rintro p J a _ ⟨K,L,M,rfl,N,u,v⟩;obtain rfl:=CE u;refine Qy z (CI (us:=[.string p.Name,.i p.Dir,.i p.Net]) z MA v DB) ?_;have⟨O,x,a⟩:=AM a;refine Ql z (HG z rW fun w' hw'=>(AbV x:)) ?_;refine Qr 1 ?_;refine QL.done fun P r=>?_;have⟨y,Q⟩:=Et b r;refine Re 1 (Wt a y ?_);intro a;refine Rc 9 ?_;intro f e;exact⟨c,nr,(wrap .i64 (d+1)),e.sub z,(AD.trans b r),a⟩
def dR(n:Nat)(a0:AQ)(a1:AQ):Option Bool:=(XK n a0.Instances a1.Instances).bind fun b=>cond (!b) (some false) ((bN n a0.Nets a1.Nets).bind fun c=>cond (!c) (some false) ((YR n a0.Ports a1.Ports).bind fun a=>cond (!a) (some false) (some true)))
theorem AfV{e f:AQ}{j:Bool}{k l m o p q:Value}(a:dR n e f=some j)(E:H<=w.heap.size)(u:AP C_Instance w H e.Instances k)(v:AP At w H e.Nets l)(x:AP C_Port w H e.Ports m)(y:AP C_Instance w H f.Instances o)(A:AP At w H f.Nets p)(B:AP C_Port w H f.Ports q):
 Calls prog 49 [.agg #[k,l,m],.agg #[o,p,q]].toArray w (Ak (.bool j) w):=by
 unfold dR at a;refine AB func49 z ntmps49 (Rc 2 (Ef z (AF z z) ?_));rintro _ F ⟨G,rfl,I,J,r,b⟩;have K:=r.size;refine Ef z (AF z z) ?_;rintro _ L ⟨M,rfl,N,O,s,c⟩;have⟨i,P⟩:=Et r s;have b:=b.ext s;refine Ro 6 (Fl Ci Eo b (Fl Ci Eo c ?_));refine Cs a i xM (fun _ d=>(AfT d (by omega) (u.oj i) (y.oj i):)) ?_;rintro Q a R C ⟨g,S⟩;have⟨b,c⟩:=Be b c C;refine Ro 3 (Wt a g ?_);intro a;refine Rc 5 (Fl ER Gj b (Fl ER Gj c ?_));refine Cs a g wW (fun _ d=>(AbE d (by omega) (v.oj g) (A.oj g):)) ?_;rintro T a U D ⟨h,V⟩;have⟨b,c⟩:=Be b c D;refine Ro 3 (Wt a h ?_);intro a;refine Rc 5 (Fl Da GA b (Fl Da GA c ?_));refine Cs a h xR (fun _ d=>(AeN d (by omega) (x.oj h) (B.oj h):)) ?_;rintro W a X Y ⟨t,Z⟩;refine Ro 3 (Wt a t ?_);intro a;exact ID a t
def TT(n:Nat)(a0:Av)(a1:Av):Option Bool:=(Ui n a0.Parent a1.Parent).bind fun d=>cond (!d) (some false) ((Ui n a0.Res a1.Res).bind fun b=>cond (!b) (some false) ((Ui n a0.Cap a1.Cap).bind fun c=>cond (!c) (some false) ((Ui n a0.Sink a1.Sink).bind fun a=>cond (!a) (some false) (some true))))
theorem AbQ{e f:Av}{k:Bool}{l m o p q r s t:Value}(a:TT n e f=some k)(L:H<=w.heap.size)(y:AP (AH .i64) w H e.Parent l)(A:AP (AH .i64) w H e.Res m)(B:AP (AH .i64) w H e.Cap o)(C:AP (AH .i64) w H e.Sink p)(D:AP (AH .i64) w H f.Parent q)(E:AP (AH .i64) w H f.Res r)(F:AP (AH .i64) w H f.Cap s)(G:AP (AH .i64) w H f.Sink t):
 Calls prog 100 [.agg #[l,m,o,p],.agg #[q,r,s,t]].toArray w (Ak (.bool k) w):=by
 unfold TT at a;refine AB func100 z ntmps100 (Rc 2 (Ef z (AF z z) ?_));rintro _ M ⟨N,rfl,O,P,u,b⟩;have Q:=u.size;refine Ef z (AF z z) ?_;rintro _ R ⟨S,rfl,T,U,v,c⟩;have⟨j,V⟩:=Et u v;have b:=b.ext v;refine Ro 6 (Fl EK Ah b (Fl EK Ah c ?_));refine Cs a j LQ (fun _ d=>(eA d (by omega) (y.oj j) (D.oj j):)) ?_;rintro W a X I ⟨g,Y⟩;have⟨b,c⟩:=Be b c I;refine Ro 3 (Wt a g ?_);intro a;refine Rc 5 (Fl EW Ah b (Fl EW Ah c ?_));refine Cs a g LQ (fun _ d=>(eA d (by omega) (A.oj g) (E.oj g):)) ?_;rintro Z a a0 J ⟨h,b0⟩;have⟨b,c⟩:=Be b c J;refine Ro 3 (Wt a h ?_);intro a;refine Rc 5 (Fl FV Ah b (Fl FV Ah c ?_));refine Cs a h LQ (fun _ d=>(eA d (by omega) (B.oj h) (F.oj h):)) ?_;rintro c0 a d0 K ⟨i,e0⟩;have⟨b,c⟩:=Be b c K;refine Ro 3 (Wt a i ?_);intro a;refine Rc 5 (Fl Dg Ah b (Fl Dg Ah c ?_));refine Cs a i LQ (fun _ d=>(eA d (by omega) (C.oj i) (G.oj i):)) ?_;rintro f0 a g0 h0 ⟨x,i0⟩;refine Ro 3 (Wt a x ?_);intro a;exact ID a x
def Kh(n:Nat)(a0:List Av)(a1:List Av)(k0:Int->Option Bool):Nat->Int->Option Bool
 |0,_=>none
 |m+1,a=>cond (decide (a<(a0.length:Int))) ((AG a0 a).bind fun d=>(AG a1 a).bind fun b=>(TT n d b).bind fun c=>cond (!c) (some false) (Kh n a0 a1 k0 m (wrap .i64 (a+1)))) (k0 a)
def bZ(n:Nat)(a0:List Av)(a1:List Av):Option Bool:=cond (((a0.length:Int)) !=((a1.length:Int))) (some false) (Kh n a0 a1 (fun a=>some true) n 0)
theorem AcT{g h:List Av}{i:Bool}{j k:Value}(a:bZ n g h=some i)(hH:H<=w.heap.size)(l:AP C_Wire w H g j)(o:AP C_Wire w H h k):
 Calls prog 50 [j,k].toArray w (Ak (.bool i) w):=by
 have m:=AD.refl w;unfold bZ at a;refine AB func50 z ntmps50 (Rc 9 (Yl z (CJ z GB (l.oj m)) (Ro 1 (Yl z (CJ z GB (o.oj m)) (Ro 3 (Wt a m ?_))))));intro a;refine Rc 9 (WC.loopD (fun c f wl=>∃d:Int,Kn 27 [(0,j),(1,k),(5,.i d)] f∧AD w wl∧Kh n g h (fun d=>(some true)) c d=some i) n ?_ ?_)
 ·intro f e;exact⟨0,e.sub z,AD.refl _,a⟩
 ·rintro c f P ⟨d,e,b,a⟩;refine CB e ?_;rcases c with _|c;exact CA a;rw [Kh.eq_2]at a;have Q:=b.size;refine Rc 5 (Yl z (CJ z GB (l.oj b)) (Ro 3 (Wf a b ?_)));intro a;refine Rc 5 (Ba Tryz.hm (Qr 2 (Iq a (l.oj b) GB CO ?_)));rintro R S a _ ⟨T,U,V,rfl,W,q,r⟩;obtain⟨s,t,u,v,rfl,x,y,A,B⟩:=CD q;refine Qy z (CI (us:=[s,t,u,v]) z GC r CO) (Qr 2 (Iq a (o.oj b) GB CO ?_));rintro X Y a _ ⟨Z,a0,b0,rfl,c0,C,D⟩;obtain⟨E,F,G,I,rfl,J,K,L,M⟩:=CD C;refine Qy z (CI (us:=[E,F,G,I]) z GC D CO) ?_;have⟨d0,N,a⟩:=AM a;refine Ql z (HG z rK fun w' hw'=>(AbQ N (Nat.le_trans (by omega) (hw').size) (x.old hw' (by omega)) (y.old hw' (by omega)) (A.old hw' (by omega)) (B.old hw' (by omega)) (J.old hw' (by omega)) (K.old hw' (by omega)) (L.old hw' (by omega)) (M.old hw' (by omega)):)) ?_;refine Qr 1 ?_;refine QL.done fun e0 p=>?_;have⟨O,f0⟩:=Et b p;refine Re 1 (Wt a O ?_);intro a;refine Rc 9 ?_;intro f e;exact⟨c,nr,(wrap .i64 (d+1)),e.sub z,(AD.trans b p),a⟩
def Xs(n:Nat)(a0:AO)(a1:AO):Option Bool:=(YL n a0.Library a1.Library).bind fun b=>cond (!b) (some false) ((dR n a0.Design a1.Design).bind fun c=>cond (!c) (some false) ((bZ n a0.Wires a1.Wires).bind fun a=>cond (!a) (some false) (some true)))
theorem AfQ{e f:AO}{s:Bool}{h i j k t l m o p u:Value}(a:Xs n e f=some s)(N:H<=w.heap.size)(A:AP C_Cell w H e.Library.Cells h)(B:AP C_Instance w H e.Design.Instances i)(C:AP At w H e.Design.Nets j)(D:AP C_Port w H e.Design.Ports k)(E:AP C_Wire w H e.Wires t)(F:AP C_Cell w H f.Library.Cells l)(G:AP C_Instance w H f.Design.Instances m)(I:AP At w H f.Design.Nets o)(J:AP C_Port w H f.Design.Ports p)(K:AP C_Wire w H f.Wires u):
 Calls prog 18 [.agg #[h,i,j,k,t],.agg #[l,m,o,p,u]].toArray w (Ak (.bool s) w):=by
 unfold Xs at a;refine AB func18 z ntmps18 (Rc 2 (Ef z (AF z z) ?_));rintro _ O ⟨P,rfl,Q,R,v,b⟩;have S:=v.size;refine Ef z (AF z z) ?_;rintro _ T ⟨U,rfl,V,W,x,d⟩;have⟨r,X⟩:=Et v x;have b:=b.ext x;refine Ro 6 (Yl z (BQ z FF) (Yl z (CI (us:=[h]) z JJ (AR.sub (Ae.cells b) 0 1:AR _ _ _ [h]) Gy) (Yl z (BQ z FF) (Yl z (CI (us:=[l]) z JJ (AR.sub (Ae.cells d) 0 1:AR _ _ _ [l]) Gy) ?_))));refine Cs a r vL (fun _ g=>(AaY g (by omega) (A.oj r) (F.oj r):)) ?_;rintro Y a Z L ⟨c,a0⟩;have⟨b,d⟩:=Be b d L;refine Ro 3 (Wt a c ?_);intro a;refine Rc 5 (Yl z (BQ z CX) (Yl z (CI (us:=[i,j,k]) z DL (AR.sub (Ae.cells b) 1 3:AR _ _ _ [i,j,k]) Cv) (Yl z (BQ z CX) (Yl z (CI (us:=[m,o,p]) z DL (AR.sub (Ae.cells d) 1 3:AR _ _ _ [m,o,p]) Cv) ?_))));refine Cs a c uQ (fun _ g=>(AfV g (by omega) (B.oj c) (C.oj c) (D.oj c) (G.oj c) (I.oj c) (J.oj c):)) ?_;rintro b0 a c0 M ⟨q,d0⟩;have⟨b,d⟩:=Be b d M;refine Ro 3 (Wt a q ?_);intro a;refine Rc 5 (Fl Cz FO b (Fl Cz FO d ?_));refine Cs a q xA (fun _ g=>(AcT g (by omega) (E.oj q) (K.oj q):)) ?_;rintro e0 a f0 g0 ⟨y,h0⟩;refine Ro 3 (Wt a y ?_);intro a;exact ID a y
def Ks(a0:List Bool)(a1:List Bool)(k0:Int->Option Bool):Nat->Int->Option Bool
 |0,_=>none
 |m+1,a=>cond (decide (a<(a0.length:Int))) ((AG a0 a).bind fun c=>(AG a1 a).bind fun b=>cond (c !=b) (some false) (Ks a0 a1 k0 m (wrap .i64 (a+1)))) (k0 a)
def Vr(n:Nat)(a0:List Bool)(a1:List Bool):Option Bool:=cond (((a0.length:Int)) !=((a1.length:Int))) (some false) (Ks a0 a1 (fun a=>some true) n 0)
theorem tU{g h:List Bool}{i:Bool}{j k:Value}(a:Vr n g h=some i)(r:H<=w.heap.size)(l:AP Aq w H g j)(o:AP Aq w H h k):
 Calls prog 51 [j,k].toArray w (Ak (.bool i) w):=by
 have m:=AD.refl w;unfold Vr at a;refine AB func51 z ntmps51 (Rc 9 (Yl z (CJ z Db (l.oj m)) (Ro 1 (Yl z (CJ z Db (o.oj m)) (Ro 3 (Wt a m ?_))))));intro a;refine Rc 9 (WC.loopD (fun c f wl=>∃d:Int,Kn 26 [(0,j),(1,k),(5,.i d)] f∧AD w wl∧Ks g h (fun d=>(some true)) c d=some i) n ?_ ?_)
 ·intro f e;exact⟨0,e.sub z,AD.refl _,a⟩
 ·rintro c f s ⟨d,e,b,a⟩;refine CB e ?_;rcases c with _|c;exact CA a;rw [Ks.eq_2]at a;have t:=b.size;refine Rc 5 (Yl z (CJ z Db (l.oj b)) (Ro 3 (Wf a b ?_)));intro a;refine Rc 5 (Ba Tryz.hm (Qr 2 (NZ a (l.oj b) Db Ej De ?_)));rintro u a _;refine Qr 2 (NZ a (o.oj b) Db Ej De ?_);rintro v a _;refine Qy z (Ma z qI z z) ?_;refine QL.done fun x p=>?_;have⟨q,y⟩:=Et b p;refine Re 1 (Wt a q ?_);intro a;refine Rc 9 ?_;intro f e;exact⟨c,nr,(wrap .i64 (d+1)),e.sub z,(AD.trans b p),a⟩
def KV(n:Nat)(a0:List AX)(a1:List AX)(k0:Int->Option Bool):Nat->Int->Option Bool
 |0,_=>none
 |m+1,a=>cond (decide (a<(a0.length:Int))) ((AG a0 a).bind fun d=>(AG a1 a).bind fun b=>(RY n d b).bind fun c=>cond (!c) (some false) (KV n a0 a1 k0 m (wrap .i64 (a+1)))) (k0 a)
def TU(n:Nat)(a0:List AX)(a1:List AX):Option Bool:=cond (((a0.length:Int)) !=((a1.length:Int))) (some false) (KV n a0 a1 (fun a=>some true) n 0)
theorem rM{g h:List AX}{i:Bool}{j k:Value}(a:TU n g h=some i)(A:H<=w.heap.size)(l:AP C_Span w H g j)(o:AP C_Span w H h k):
 Calls prog 52 [j,k].toArray w (Ak (.bool i) w):=by
 have m:=AD.refl w;unfold TU at a;refine AB func52 z ntmps52 (Rc 9 (Yl z (CJ z Ep (l.oj m)) (Ro 1 (Yl z (CJ z Ep (o.oj m)) (Ro 3 (Wt a m ?_))))));intro a;refine Rc 9 (WC.loopD (fun c f wl=>∃d:Int,Kn 27 [(0,j),(1,k),(5,.i d)] f∧AD w wl∧KV n g h (fun d=>(some true)) c d=some i) n ?_ ?_)
 ·intro f e;exact⟨0,e.sub z,AD.refl _,a⟩
 ·rintro c f B ⟨d,e,b,a⟩;refine CB e ?_;rcases c with _|c;exact CA a;rw [KV.eq_2]at a;have C:=b.size;refine Rc 5 (Yl z (CJ z Ep (l.oj b)) (Ro 3 (Wf a b ?_)));intro a;refine Rc 5 (Ba Tryz.hm (Qr 2 (Iq a (l.oj b) Ep Ag ?_)));rintro p D a _ ⟨E,F,G,rfl,I,s,t⟩;obtain rfl:=BM s;refine Qy z (CI (us:=[.i p.Early,.i p.Late]) z CK t Ag) (Qr 2 (Iq a (o.oj b) Ep Ag ?_));rintro q J a _ ⟨K,L,M,rfl,N,u,v⟩;obtain rfl:=BM u;refine Qy z (CI (us:=[.i q.Early,.i q.Late]) z CK v Ag) ?_;have⟨O,x,a⟩:=AM a;refine Ql z (HG z lA fun w' hw'=>(sZ x:)) ?_;refine Qr 1 ?_;refine QL.done fun P r=>?_;have⟨y,Q⟩:=Et b r;refine Re 1 (Wt a y ?_);intro a;refine Rc 9 ?_;intro f e;exact⟨c,nr,(wrap .i64 (d+1)),e.sub z,(AD.trans b r),a⟩
def ZO(n:Nat)(a0:Am)(a1:Am):Option Bool:=(Vr n a0.Reached a1.Reached).bind fun b=>cond (!b) (some false) ((TU n a0.Arrival a1.Arrival).bind fun c=>cond (!c) (some false) ((TU n a0.Slew a1.Slew).bind fun a=>cond (!a) (some false) (some true)))
theorem AdY{e f:Am}{j:Bool}{k l m o p q:Value}(a:ZO n e f=some j)(E:H<=w.heap.size)(u:AP Aq w H e.Reached k)(v:AP C_Span w H e.Arrival l)(x:AP C_Span w H e.Slew m)(y:AP Aq w H f.Reached o)(A:AP C_Span w H f.Arrival p)(B:AP C_Span w H f.Slew q):
 Calls prog 20 [.agg #[k,l,m],.agg #[o,p,q]].toArray w (Ak (.bool j) w):=by
 unfold ZO at a;refine AB func20 z ntmps20 (Rc 2 (Ef z (AF z z) ?_));rintro _ F ⟨G,rfl,I,J,r,b⟩;have K:=r.size;refine Ef z (AF z z) ?_;rintro _ L ⟨M,rfl,N,O,s,c⟩;have⟨i,P⟩:=Et r s;have b:=b.ext s;refine Ro 6 (Fl Fp Dj b (Fl Fp Dj c ?_));refine Cs a i kM (fun _ d=>(tU d (by omega) (u.oj i) (y.oj i):)) ?_;rintro Q a R C ⟨g,S⟩;have⟨b,c⟩:=Be b c C;refine Ro 3 (Wt a g ?_);intro a;refine Rc 5 (Fl GZ DG b (Fl GZ DG c ?_));refine Cs a g YQ (fun _ d=>(rM d (by omega) (v.oj g) (A.oj g):)) ?_;rintro T a U D ⟨h,V⟩;have⟨b,c⟩:=Be b c D;refine Ro 3 (Wt a h ?_);intro a;refine Rc 5 (Fl Ew DG b (Fl Ew DG c ?_));refine Cs a h YQ (fun _ d=>(rM d (by omega) (x.oj h) (B.oj h):)) ?_;rintro W a X Y ⟨t,Z⟩;refine Ro 3 (Wt a t ?_);intro a;exact ID a t
def LC(n:Nat)(a0:List AJ)(a1:List AJ)(k0:Int->Option Bool):Nat->Int->Option Bool
 |0,_=>none
 |m+1,a=>cond (decide (a<(a0.length:Int))) ((AG a0 a).bind fun d=>(AG a1 a).bind fun b=>(Py n d b).bind fun c=>cond (!c) (some false) (LC n a0 a1 k0 m (wrap .i64 (a+1)))) (k0 a)
def XL(n:Nat)(a0:List AJ)(a1:List AJ):Option Bool:=cond (((a0.length:Int)) !=((a1.length:Int))) (some false) (LC n a0 a1 (fun a=>some true) n 0)
theorem AbP{g h:List AJ}{i:Bool}{j k:Value}(a:XL n g h=some i)(A:H<=w.heap.size)(l:AP C_Target w H g j)(q:AP C_Target w H h k):
 Calls prog 21 [j,k].toArray w (Ak (.bool i) w):=by
 have m:=AD.refl w;unfold XL at a;refine AB func21 z ntmps21 (Rc 9 (Yl z (CJ z HY (l.oj m)) (Ro 1 (Yl z (CJ z HY (q.oj m)) (Ro 3 (Wt a m ?_))))));intro a;refine Rc 9 (WC.loopD (fun c f wl=>∃d:Int,Kn 27 [(0,j),(1,k),(5,.i d)] f∧AD w wl∧LC n g h (fun d=>(some true)) c d=some i) n ?_ ?_)
 ·intro f e;exact⟨0,e.sub z,AD.refl _,a⟩
 ·rintro c f B ⟨d,e,b,a⟩;refine CB e ?_;rcases c with _|c;exact CA a;rw [LC.eq_2]at a;have C:=b.size;refine Rc 5 (Yl z (CJ z HY (l.oj b)) (Ro 3 (Wf a b ?_)));intro a;refine Rc 5 (Ba Tryz.hm (Qr 2 (Iq a (l.oj b) HY BC ?_)));rintro o D a _ ⟨E,F,G,rfl,I,s,t⟩;obtain rfl:=Bn s;refine Qy z (CI (us:=[.i o.Node,.i o.Required.Early,.i o.Required.Late]) z DJ t BC) (Qr 2 (Iq a (q.oj b) HY BC ?_));rintro p J a _ ⟨K,L,M,rfl,N,u,v⟩;obtain rfl:=Bn u;refine Qy z (CI (us:=[.i p.Node,.i p.Required.Early,.i p.Required.Late]) z DJ v BC) ?_;have⟨O,x,a⟩:=AM a;refine Ql z (HG z jR fun w' hw'=>(tY x:)) ?_;refine Qr 1 ?_;refine QL.done fun P r=>?_;have⟨y,Q⟩:=Et b r;refine Re 1 (Wt a y ?_);intro a;refine Rc 9 ?_;intro f e;exact⟨c,nr,(wrap .i64 (d+1)),e.sub z,(AD.trans b r),a⟩
def Xq(n:Nat)(a0:BA)(a1:BA):Option Bool:=(Vr n a0.Bound a1.Bound).bind fun a=>cond (!a) (some false) ((TU n a0.Required a1.Required).bind fun b=>cond (!b) (some false) (some true))
theorem zQ{e f:BA}{i:Bool}{j k l m:Value}(a:Xq n e f=some i)(x:H<=w.heap.size)(r:AP Aq w H e.Bound j)(s:AP C_Span w H e.Required k)(t:AP Aq w H f.Bound l)(u:AP C_Span w H f.Required m):
 Calls prog 22 [.agg #[j,k],.agg #[l,m]].toArray w (Ak (.bool i) w):=by
 unfold Xq at a;refine AB func22 z ntmps22 (Rc 2 (Ef z (AF z z) ?_));rintro _ y ⟨A,rfl,B,C,o,b⟩;have D:=o.size;refine Ef z (AF z z) ?_;rintro _ E ⟨F,rfl,G,I,p,c⟩;have⟨g,J⟩:=Et o p;have b:=b.ext p;refine Ro 6 (Fl FL Dj b (Fl FL Dj c ?_));refine Cs a g kM (fun _ h=>(tU h (by omega) (r.oj g) (t.oj g):)) ?_;rintro K a L v ⟨d,M⟩;have⟨b,c⟩:=Be b c v;refine Ro 3 (Wt a d ?_);intro a;refine Rc 5 (Fl ED DG b (Fl ED DG c ?_));refine Cs a d YQ (fun _ h=>(rM h (by omega) (s.oj d) (u.oj d):)) ?_;rintro N a O P ⟨q,Q⟩;refine Ro 3 (Wt a q ?_);intro a;exact ID a q

theorem FN{n:Nat}{a:List Int}{left:Int}(hR:(fun xs=>xs.length<=9223372036854775807∧∀x∈xs,(Jk .i64) x) a)(h0:0<=left)(h1:left<=1048576)(hn:1048577<=n):∃r,WL n a left=some r∧r<=left∧(0<=r->(fun xs=>xs.length<=1048576∧∀x∈xs,(fun _=>True) x) a):=by
 have hl:=hR.1
 rw [WL,Ac (by omega) (by omega)]
 by_cases h:left-(a.length:Int)<0
 ·rw [decide_eq_true h];exact⟨-1,z,by omega,fun h=>by omega⟩
 ·rw [decide_eq_false h];exact⟨_,z,by omega,fun _=>⟨by omega,fun x _=>trivial⟩⟩
theorem yF{n:Nat}{a:BR}{left:Int}(hR:SF a)(h0:0<=left)(h1:left<=1048576)(hn:1048577<=n):∃r,Vp n a left=some r∧r<=left∧(0<=r->JO a):=by
 rw [Vp]
 have g0:a.Name.size<=9223372036854775807:=Ga▸hR.1
 have w0:wrap .i64 (left-(a.Name.size:Int))=left-(a.Name.size:Int):=Ac (by omega) (by omega)
 rw [w0]
 generalize hq0:left-(a.Name.size:Int)=r0
 by_cases h_0:r0<0
 ·rw [decide_eq_true h_0];exact⟨-1,z,by omega,fun h=>by omega⟩
 rw [decide_eq_false h_0,cond_false]
 exact⟨_,z,by omega,fun _=>⟨(by omega),trivial,trivial,trivial⟩⟩
theorem mG{n:Nat}{a:List BR}{left:Int}(hR:(fun xs=>xs.length<=9223372036854775807∧∀x∈xs,SF x) a)(h0:0<=left)(h1:left<=1048576)(hn:1048577<=n):∃r,Zr n a left=some r∧r<=left∧(0<=r->(fun xs=>xs.length<=1048576∧∀x∈xs,JO x) a):=by
 have hl:=hR.1
 rw [Zr,Ac (by omega) (by omega)]
 by_cases h:left-(a.length:Int)<0
 ·rw [decide_eq_true h];exact⟨-1,z,by omega,fun h=>by omega⟩
 ·rw [decide_eq_false h,cond_false]
  have⟨r,e,hr,hs⟩:=eY (xs:=a) (L:=fun m l i=>IS n a (fun i7 i8=>(some i7)) m l i) (f:=Vp n) (SM:=JO) (by omega) (fun x hx left g0 g1=>yF (hR.2 x hx) g0 g1 hn) (fun m i left hi hi2=>by simp only [IS.eq_2,Qu hi,cond_true,Fw hi,Option.bind_some,jH hi2]) (fun m left=>by simp only [IS.eq_2,Sc,cond_false]) n 0 (left-(a.length:Int)) (by omega) (by omega) (by omega) (by omega) (fun j _ hj=>by omega)
  exact⟨r,e,by omega,fun h=>⟨by omega,hs h⟩⟩
theorem gS{n:Nat}{a:Aa}{left:Int}(hR:LA a)(h0:0<=left)(h1:left<=1048576)(hn:1048577<=n):∃r,WA n a left=some r∧r<=left∧(0<=r->Dx a):=by
 rw [WA]
 have⟨r0,e0,l0,s0⟩:=FN (n:=n) (left:=left) hR.1 h0 h1 hn
 rw [e0,Option.bind_some]
 by_cases h_0:r0<0
 ·rw [decide_eq_true h_0];exact⟨-1,z,by omega,fun h=>by omega⟩
 rw [decide_eq_false h_0,cond_false]
 have⟨r1,e1,l1,s1⟩:=FN (n:=n) (left:=r0) hR.2.1 (show(0:Int)<=r0 by omega) (by omega) hn
 rw [e1,Option.bind_some]
 by_cases h_1:r1<0
 ·rw [decide_eq_true h_1];exact⟨-1,z,by omega,fun h=>by omega⟩
 rw [decide_eq_false h_1,cond_false]
 have⟨r2,e2,l2,s2⟩:=FN (n:=n) (left:=r1) hR.2.2 (show(0:Int)<=r1 by omega) (by omega) hn
 rw [e2,Option.bind_some]
 by_cases h_2:r2<0
 ·rw [decide_eq_true h_2];exact⟨-1,z,by omega,fun h=>by omega⟩
 rw [decide_eq_false h_2,cond_false]
 exact⟨_,z,by omega,fun _=>⟨s0 (by omega),s1 (by omega),s2 (by omega)⟩⟩
theorem Sa{n:Nat}{a:List Aa}{left:Int}(hR:(fun xs=>xs.length<=9223372036854775807∧∀x∈xs,LA x) a)(h0:0<=left)(h1:left<=1048576)(hn:1048577<=n):∃r,WH n a left=some r∧r<=left∧(0<=r->(fun xs=>xs.length<=1048576∧∀x∈xs,Dx x) a):=by
 have hl:=hR.1
 rw [WH,Ac (by omega) (by omega)]
 by_cases h:left-(a.length:Int)<0
 ·rw [decide_eq_true h];exact⟨-1,z,by omega,fun h=>by omega⟩
 ·rw [decide_eq_false h,cond_false]
  have⟨r,e,hr,hs⟩:=eY (xs:=a) (L:=fun m l i=>IA n a (fun i7 i8=>(some i7)) m l i) (f:=WA n) (SM:=Dx) (by omega) (fun x hx left g0 g1=>gS (hR.2 x hx) g0 g1 hn) (fun m i left hi hi2=>by simp only [IA.eq_2,Qu hi,cond_true,Fw hi,Option.bind_some,jH hi2]) (fun m left=>by simp only [IA.eq_2,Sc,cond_false]) n 0 (left-(a.length:Int)) (by omega) (by omega) (by omega) (by omega) (fun j _ hj=>by omega)
  exact⟨r,e,by omega,fun h=>⟨by omega,hs h⟩⟩
theorem wQ{n:Nat}{a:Ap}{left:Int}(hR:SP a)(h0:0<=left)(h1:left<=1048576)(hn:1048577<=n):∃r,Vz n a left=some r∧r<=left∧(0<=r->JZ a):=by
 rw [Vz]
 have⟨r0,e0,l0,s0⟩:=Sa (n:=n) (left:=left) hR.2.2.2.2.1 h0 h1 hn
 rw [e0,Option.bind_some]
 by_cases h_0:r0<0
 ·rw [decide_eq_true h_0];exact⟨-1,z,by omega,fun h=>by omega⟩
 rw [decide_eq_false h_0,cond_false]
 have⟨r1,e1,l1,s1⟩:=Sa (n:=n) (left:=r0) hR.2.2.2.2.2 (show(0:Int)<=r0 by omega) (by omega) hn
 rw [e1,Option.bind_some]
 by_cases h_1:r1<0
 ·rw [decide_eq_true h_1];exact⟨-1,z,by omega,fun h=>by omega⟩
 rw [decide_eq_false h_1,cond_false]
 exact⟨_,z,by omega,fun _=>⟨trivial,trivial,trivial,trivial,s0 (by omega),s1 (by omega)⟩⟩
theorem nB{n:Nat}{a:List Ap}{left:Int}(hR:(fun xs=>xs.length<=9223372036854775807∧∀x∈xs,SP x) a)(h0:0<=left)(h1:left<=1048576)(hn:1048577<=n):∃r,ZB n a left=some r∧r<=left∧(0<=r->(fun xs=>xs.length<=1048576∧∀x∈xs,JZ x) a):=by
 have hl:=hR.1
 rw [ZB,Ac (by omega) (by omega)]
 by_cases h:left-(a.length:Int)<0
 ·rw [decide_eq_true h];exact⟨-1,z,by omega,fun h=>by omega⟩
 ·rw [decide_eq_false h,cond_false]
  have⟨r,e,hr,hs⟩:=eY (xs:=a) (L:=fun m l i=>IJ n a (fun i7 i8=>(some i7)) m l i) (f:=Vz n) (SM:=JZ) (by omega) (fun x hx left g0 g1=>wQ (hR.2 x hx) g0 g1 hn) (fun m i left hi hi2=>by simp only [IJ.eq_2,Qu hi,cond_true,Fw hi,Option.bind_some,jH hi2]) (fun m left=>by simp only [IJ.eq_2,Sc,cond_false]) n 0 (left-(a.length:Int)) (by omega) (by omega) (by omega) (by omega) (fun j _ hj=>by omega)
  exact⟨r,e,by omega,fun h=>⟨by omega,hs h⟩⟩
theorem mZ{n:Nat}{a:Af}{left:Int}(hR:Oq a)(h0:0<=left)(h1:left<=1048576)(hn:1048577<=n):∃r,Vf n a left=some r∧r<=left∧(0<=r->FK a):=by
 rw [Vf]
 have g0:a.Name.size<=9223372036854775807:=Ga▸hR.1
 have w0:wrap .i64 (left-(a.Name.size:Int))=left-(a.Name.size:Int):=Ac (by omega) (by omega)
 rw [w0]
 generalize hq0:left-(a.Name.size:Int)=r0
 by_cases h_0:r0<0
 ·rw [decide_eq_true h_0];exact⟨-1,z,by omega,fun h=>by omega⟩
 rw [decide_eq_false h_0,cond_false]
 have⟨r1,e1,l1,s1⟩:=mG (n:=n) (left:=r0) hR.2.2.1 (show(0:Int)<=r0 by omega) (by omega) hn
 rw [e1,Option.bind_some]
 by_cases h_1:r1<0
 ·rw [decide_eq_true h_1];exact⟨-1,z,by omega,fun h=>by omega⟩
 rw [decide_eq_false h_1,cond_false]
 have⟨r2,e2,l2,s2⟩:=nB (n:=n) (left:=r1) hR.2.2.2.1 (show(0:Int)<=r1 by omega) (by omega) hn
 rw [e2,Option.bind_some]
 by_cases h_2:r2<0
 ·rw [decide_eq_true h_2];exact⟨-1,z,by omega,fun h=>by omega⟩
 rw [decide_eq_false h_2,cond_false]
 have⟨r3,e3,l3,s3⟩:=FN (n:=n) (left:=r2) hR.2.2.2.2.1 (show(0:Int)<=r2 by omega) (by omega) hn
 rw [e3,Option.bind_some]
 by_cases h_3:r3<0
 ·rw [decide_eq_true h_3];exact⟨-1,z,by omega,fun h=>by omega⟩
 rw [decide_eq_false h_3,cond_false]
 exact⟨_,z,by omega,fun _=>⟨(by omega),trivial,s1 (by omega),s2 (by omega),s3 (by omega),trivial,trivial⟩⟩
theorem fX{n:Nat}{a:List Af}{left:Int}(hR:(fun xs=>xs.length<=9223372036854775807∧∀x∈xs,Oq x) a)(h0:0<=left)(h1:left<=1048576)(hn:1048577<=n):∃r,ZW n a left=some r∧r<=left∧(0<=r->(fun xs=>xs.length<=1048576∧∀x∈xs,FK x) a):=by
 have hl:=hR.1
 rw [ZW,Ac (by omega) (by omega)]
 by_cases h:left-(a.length:Int)<0
 ·rw [decide_eq_true h];exact⟨-1,z,by omega,fun h=>by omega⟩
 ·rw [decide_eq_false h,cond_false]
  have⟨r,e,hr,hs⟩:=eY (xs:=a) (L:=fun m l i=>Ii n a (fun i7 i8=>(some i7)) m l i) (f:=Vf n) (SM:=FK) (by omega) (fun x hx left g0 g1=>mZ (hR.2 x hx) g0 g1 hn) (fun m i left hi hi2=>by simp only [Ii.eq_2,Qu hi,cond_true,Fw hi,Option.bind_some,jH hi2]) (fun m left=>by simp only [Ii.eq_2,Sc,cond_false]) n 0 (left-(a.length:Int)) (by omega) (by omega) (by omega) (by omega) (fun j _ hj=>by omega)
  exact⟨r,e,by omega,fun h=>⟨by omega,hs h⟩⟩
theorem Wn{n:Nat}{a:Ad}{left:Int}(hR:NF a)(h0:0<=left)(h1:left<=1048576)(hn:1048577<=n):∃r,bO n a left=some r∧r<=left∧(0<=r->IE a):=by
 rw [bO]
 have⟨r0,e0,l0,s0⟩:=fX (n:=n) (left:=left) hR h0 h1 hn
 rw [e0,Option.bind_some]
 by_cases h_0:r0<0
 ·rw [decide_eq_true h_0];exact⟨-1,z,by omega,fun h=>by omega⟩
 rw [decide_eq_false h_0,cond_false]
 exact⟨_,z,by omega,fun _=>s0 (by omega)⟩
theorem Ty{n:Nat}{a:AV}{left:Int}(hR:Gq a)(h0:0<=left)(h1:left<=1048576)(hn:1048577<=n):∃r,Ve n a left=some r∧r<=left∧(0<=r->EB a):=by
 rw [Ve]
 have g0:a.Name.size<=9223372036854775807:=Ga▸hR.1
 have w0:wrap .i64 (left-(a.Name.size:Int))=left-(a.Name.size:Int):=Ac (by omega) (by omega)
 rw [w0]
 generalize hq0:left-(a.Name.size:Int)=r0
 by_cases h_0:r0<0
 ·rw [decide_eq_true h_0];exact⟨-1,z,by omega,fun h=>by omega⟩
 rw [decide_eq_false h_0,cond_false]
 have⟨r1,e1,l1,s1⟩:=FN (n:=n) (left:=r0) hR.2.2 (show(0:Int)<=r0 by omega) (by omega) hn
 rw [e1,Option.bind_some]
 by_cases h_1:r1<0
 ·rw [decide_eq_true h_1];exact⟨-1,z,by omega,fun h=>by omega⟩
 rw [decide_eq_false h_1,cond_false]
 exact⟨_,z,by omega,fun _=>⟨(by omega),trivial,s1 (by omega)⟩⟩
theorem RH{n:Nat}{a:List AV}{left:Int}(hR:(fun xs=>xs.length<=9223372036854775807∧∀x∈xs,Gq x) a)(h0:0<=left)(h1:left<=1048576)(hn:1048577<=n):∃r,Xd n a left=some r∧r<=left∧(0<=r->(fun xs=>xs.length<=1048576∧∀x∈xs,EB x) a):=by
 have hl:=hR.1
 rw [Xd,Ac (by omega) (by omega)]
 by_cases h:left-(a.length:Int)<0
 ·rw [decide_eq_true h];exact⟨-1,z,by omega,fun h=>by omega⟩
 ·rw [decide_eq_false h,cond_false]
  have⟨r,e,hr,hs⟩:=eY (xs:=a) (L:=fun m l i=>IP n a (fun i7 i8=>(some i7)) m l i) (f:=Ve n) (SM:=EB) (by omega) (fun x hx left g0 g1=>Ty (hR.2 x hx) g0 g1 hn) (fun m i left hi hi2=>by simp only [IP.eq_2,Qu hi,cond_true,Fw hi,Option.bind_some,jH hi2]) (fun m left=>by simp only [IP.eq_2,Sc,cond_false]) n 0 (left-(a.length:Int)) (by omega) (by omega) (by omega) (by omega) (fun j _ hj=>by omega)
  exact⟨r,e,by omega,fun h=>⟨by omega,hs h⟩⟩
theorem WW{n:Nat}{a:List ByteArray}{left:Int}(hR:(fun xs=>xs.length<=9223372036854775807∧∀x∈xs,(fun s=>s.size<=maxLen) x) a)(h0:0<=left)(h1:left<=1048576)(hn:1048577<=n):∃r,cS n a left=some r∧r<=left∧(0<=r->(fun xs=>xs.length<=1048576∧∀x∈xs,(fun s=>s.size<=1048576) x) a):=by
 have hl:=hR.1
 rw [cS,Ac (by omega) (by omega)]
 by_cases h:left-(a.length:Int)<0
 ·rw [decide_eq_true h];exact⟨-1,z,by omega,fun h=>by omega⟩
 ·rw [decide_eq_false h,cond_false]
  have⟨r,e,hr,hs⟩:=eY (xs:=a) (L:=fun m l i=>Ij a (fun i5 i6=>(some i5)) m l i) (f:=fun(x:ByteArray) (l:Int)=>cond (decide (wrap .i64 (l-(x.size:Int))<0)) (some (-1)) (some (wrap .i64 (l-(x.size:Int))))) (SM:=fun s=>s.size<=1048576) (by omega) (fun x hx l g0 g1=>by
   have g:=hR.2 x hx
   have g:(x.size:Int)<=9223372036854775807:=by rw [Ga]at g;omega
   rw [Ac (by omega) (by omega)]
   by_cases h1:l-(x.size:Int)<0
   ·exact⟨-1,by rw [decide_eq_true h1];rfl,by omega,fun h=>by omega⟩
   ·exact⟨_,by rw [decide_eq_false h1];rfl,by omega,fun _=>by omega⟩) (fun m i l hi hi2=>by
   simp only [Ij.eq_2,Qu hi,cond_true,Fw hi,Option.bind_some,jH hi2]
   cases h1:decide (wrap .i64 (l-(a[i].size:Int))<0)with
   |true=>simp
   |false=>simp only [cond_false,Option.bind_some,h1]) (fun m left=>by simp only [Ij.eq_2,Sc,cond_false]) n 0 (left-(a.length:Int)) (by omega) (by omega) (by omega) (by omega) (fun j _ hj=>by omega)
  exact⟨r,e,by omega,fun h=>⟨by omega,hs h⟩⟩
theorem rF{n:Nat}{a:BS}{left:Int}(hR:OO a)(h0:0<=left)(h1:left<=1048576)(hn:1048577<=n):∃r,Vl n a left=some r∧r<=left∧(0<=r->Gz a):=by
 rw [Vl]
 have g0:a.Name.size<=9223372036854775807:=Ga▸hR.1
 have w0:wrap .i64 (left-(a.Name.size:Int))=left-(a.Name.size:Int):=Ac (by omega) (by omega)
 rw [w0]
 generalize hq0:left-(a.Name.size:Int)=r0
 by_cases h_0:r0<0
 ·rw [decide_eq_true h_0];exact⟨-1,z,by omega,fun h=>by omega⟩
 rw [decide_eq_false h_0,cond_false]
 exact⟨_,z,by omega,fun _=>⟨(by omega),trivial,trivial⟩⟩
theorem fI{n:Nat}{a:List BS}{left:Int}(hR:(fun xs=>xs.length<=9223372036854775807∧∀x∈xs,OO x) a)(h0:0<=left)(h1:left<=1048576)(hn:1048577<=n):∃r,cA n a left=some r∧r<=left∧(0<=r->(fun xs=>xs.length<=1048576∧∀x∈xs,Gz x) a):=by
 have hl:=hR.1
 rw [cA,Ac (by omega) (by omega)]
 by_cases h:left-(a.length:Int)<0
 ·rw [decide_eq_true h];exact⟨-1,z,by omega,fun h=>by omega⟩
 ·rw [decide_eq_false h,cond_false]
  have⟨r,e,hr,hs⟩:=eY (xs:=a) (L:=fun m l i=>Iz n a (fun i7 i8=>(some i7)) m l i) (f:=Vl n) (SM:=Gz) (by omega) (fun x hx left g0 g1=>rF (hR.2 x hx) g0 g1 hn) (fun m i left hi hi2=>by simp only [Iz.eq_2,Qu hi,cond_true,Fw hi,Option.bind_some,jH hi2]) (fun m left=>by simp only [Iz.eq_2,Sc,cond_false]) n 0 (left-(a.length:Int)) (by omega) (by omega) (by omega) (by omega) (fun j _ hj=>by omega)
  exact⟨r,e,by omega,fun h=>⟨by omega,hs h⟩⟩
theorem XT{n:Nat}{a:AQ}{left:Int}(hR:Nv a)(h0:0<=left)(h1:left<=1048576)(hn:1048577<=n):∃r,Yi n a left=some r∧r<=left∧(0<=r->Ky a):=by
 rw [Yi]
 have⟨r0,e0,l0,s0⟩:=RH (n:=n) (left:=left) hR.1 h0 h1 hn
 rw [e0,Option.bind_some]
 by_cases h_0:r0<0
 ·rw [decide_eq_true h_0];exact⟨-1,z,by omega,fun h=>by omega⟩
 rw [decide_eq_false h_0,cond_false]
 have⟨r1,e1,l1,s1⟩:=WW (n:=n) (left:=r0) hR.2.1 (show(0:Int)<=r0 by omega) (by omega) hn
 rw [e1,Option.bind_some]
 by_cases h_1:r1<0
 ·rw [decide_eq_true h_1];exact⟨-1,z,by omega,fun h=>by omega⟩
 rw [decide_eq_false h_1,cond_false]
 have⟨r2,e2,l2,s2⟩:=fI (n:=n) (left:=r1) hR.2.2 (show(0:Int)<=r1 by omega) (by omega) hn
 rw [e2,Option.bind_some]
 by_cases h_2:r2<0
 ·rw [decide_eq_true h_2];exact⟨-1,z,by omega,fun h=>by omega⟩
 rw [decide_eq_false h_2,cond_false]
 exact⟨_,z,by omega,fun _=>⟨s0 (by omega),s1 (by omega),s2 (by omega)⟩⟩
theorem oP{n:Nat}{a:Av}{left:Int}(hR:OG a)(h0:0<=left)(h1:left<=1048576)(hn:1048577<=n):∃r,Vh n a left=some r∧r<=left∧(0<=r->HQ a):=by
 rw [Vh]
 have⟨r0,e0,l0,s0⟩:=FN (n:=n) (left:=left) hR.1 h0 h1 hn
 rw [e0,Option.bind_some]
 by_cases h_0:r0<0
 ·rw [decide_eq_true h_0];exact⟨-1,z,by omega,fun h=>by omega⟩
 rw [decide_eq_false h_0,cond_false]
 have⟨r1,e1,l1,s1⟩:=FN (n:=n) (left:=r0) hR.2.1 (show(0:Int)<=r0 by omega) (by omega) hn
 rw [e1,Option.bind_some]
 by_cases h_1:r1<0
 ·rw [decide_eq_true h_1];exact⟨-1,z,by omega,fun h=>by omega⟩
 rw [decide_eq_false h_1,cond_false]
 have⟨r2,e2,l2,s2⟩:=FN (n:=n) (left:=r1) hR.2.2.1 (show(0:Int)<=r1 by omega) (by omega) hn
 rw [e2,Option.bind_some]
 by_cases h_2:r2<0
 ·rw [decide_eq_true h_2];exact⟨-1,z,by omega,fun h=>by omega⟩
 rw [decide_eq_false h_2,cond_false]
 have⟨r3,e3,l3,s3⟩:=FN (n:=n) (left:=r2) hR.2.2.2 (show(0:Int)<=r2 by omega) (by omega) hn
 rw [e3,Option.bind_some]
 by_cases h_3:r3<0
 ·rw [decide_eq_true h_3];exact⟨-1,z,by omega,fun h=>by omega⟩
 rw [decide_eq_false h_3,cond_false]
 exact⟨_,z,by omega,fun _=>⟨s0 (by omega),s1 (by omega),s2 (by omega),s3 (by omega)⟩⟩
theorem eN{n:Nat}{a:List Av}{left:Int}(hR:(fun xs=>xs.length<=9223372036854775807∧∀x∈xs,OG x) a)(h0:0<=left)(h1:left<=1048576)(hn:1048577<=n):∃r,XA n a left=some r∧r<=left∧(0<=r->(fun xs=>xs.length<=1048576∧∀x∈xs,HQ x) a):=by
 have hl:=hR.1
 rw [XA,Ac (by omega) (by omega)]
 by_cases h:left-(a.length:Int)<0
 ·rw [decide_eq_true h];exact⟨-1,z,by omega,fun h=>by omega⟩
 ·rw [decide_eq_false h,cond_false]
  have⟨r,e,hr,hs⟩:=eY (xs:=a) (L:=fun m l i=>JE n a (fun i7 i8=>(some i7)) m l i) (f:=Vh n) (SM:=HQ) (by omega) (fun x hx left g0 g1=>oP (hR.2 x hx) g0 g1 hn) (fun m i left hi hi2=>by simp only [JE.eq_2,Qu hi,cond_true,Fw hi,Option.bind_some,jH hi2]) (fun m left=>by simp only [JE.eq_2,Sc,cond_false]) n 0 (left-(a.length:Int)) (by omega) (by omega) (by omega) (by omega) (fun j _ hj=>by omega)
  exact⟨r,e,by omega,fun h=>⟨by omega,hs h⟩⟩
theorem fN{n:Nat}{a:AO}{left:Int}(hR:QH a)(h0:0<=left)(h1:left<=1048576)(hn:1048577<=n):∃r,cO n a left=some r∧r<=left∧(0<=r->Hj a):=by
 rw [cO]
 have⟨r0,e0,l0,s0⟩:=Wn (n:=n) (left:=left) hR.1 h0 h1 hn
 rw [e0,Option.bind_some]
 by_cases h_0:r0<0
 ·rw [decide_eq_true h_0];exact⟨-1,z,by omega,fun h=>by omega⟩
 rw [decide_eq_false h_0,cond_false]
 have⟨r1,e1,l1,s1⟩:=XT (n:=n) (left:=r0) hR.2.1 (show(0:Int)<=r0 by omega) (by omega) hn
 rw [e1,Option.bind_some]
 by_cases h_1:r1<0
 ·rw [decide_eq_true h_1];exact⟨-1,z,by omega,fun h=>by omega⟩
 rw [decide_eq_false h_1,cond_false]
 have⟨r2,e2,l2,s2⟩:=eN (n:=n) (left:=r1) hR.2.2 (show(0:Int)<=r1 by omega) (by omega) hn
 rw [e2,Option.bind_some]
 by_cases h_2:r2<0
 ·rw [decide_eq_true h_2];exact⟨-1,z,by omega,fun h=>by omega⟩
 rw [decide_eq_false h_2,cond_false]
 exact⟨_,z,by omega,fun _=>⟨s0 (by omega),s1 (by omega),s2 (by omega)⟩⟩
theorem cW{n:Nat}{a:Aj}{left:Int}(hR:Oh a)(h0:0<=left)(h1:left<=1048576)(hn:1048577<=n):∃r,bP n a left=some r∧r<=left∧(0<=r->PQ a):=by
 rw [bP]
 have g0:a.Name.size<=9223372036854775807:=Ga▸hR.1
 have w0:wrap .i64 (left-(a.Name.size:Int))=left-(a.Name.size:Int):=Ac (by omega) (by omega)
 rw [w0]
 generalize hq0:left-(a.Name.size:Int)=r0
 by_cases h_0:r0<0
 ·rw [decide_eq_true h_0];exact⟨-1,z,by omega,fun h=>by omega⟩
 rw [decide_eq_false h_0,cond_false]
 exact⟨_,z,by omega,fun _=>⟨(by omega),trivial,trivial,trivial,trivial⟩⟩
theorem UW{n:Nat}{a:List Bool}{left:Int}(hR:(fun xs=>xs.length<=9223372036854775807∧∀x∈xs,(fun _=>True) x) a)(h0:0<=left)(h1:left<=1048576)(hn:1048577<=n):∃r,Vb n a left=some r∧r<=left∧(0<=r->(fun xs=>xs.length<=1048576∧∀x∈xs,(fun _=>True) x) a):=by
 have hl:=hR.1
 rw [Vb,Ac (by omega) (by omega)]
 by_cases h:left-(a.length:Int)<0
 ·rw [decide_eq_true h];exact⟨-1,z,by omega,fun h=>by omega⟩
 ·rw [decide_eq_false h];exact⟨_,z,by omega,fun _=>⟨by omega,fun x _=>trivial⟩⟩
theorem Qj{n:Nat}{a:List AX}{left:Int}(hR:(fun xs=>xs.length<=9223372036854775807∧∀x∈xs,MD x) a)(h0:0<=left)(h1:left<=1048576)(hn:1048577<=n):∃r,TI n a left=some r∧r<=left∧(0<=r->(fun xs=>xs.length<=1048576∧∀x∈xs,GT x) a):=by
 have hl:=hR.1
 rw [TI,Ac (by omega) (by omega)]
 by_cases h:left-(a.length:Int)<0
 ·rw [decide_eq_true h];exact⟨-1,z,by omega,fun h=>by omega⟩
 ·rw [decide_eq_false h];exact⟨_,z,by omega,fun _=>⟨by omega,fun x _=>⟨trivial,trivial⟩⟩⟩
theorem Zp{n:Nat}{a:Am}{left:Int}(hR:Nq a)(h0:0<=left)(h1:left<=1048576)(hn:1048577<=n):∃r,bJ n a left=some r∧r<=left∧(0<=r->Mk a):=by
 rw [bJ]
 have⟨r0,e0,l0,s0⟩:=UW (n:=n) (left:=left) hR.1 h0 h1 hn
 rw [e0,Option.bind_some]
 by_cases h_0:r0<0
 ·rw [decide_eq_true h_0];exact⟨-1,z,by omega,fun h=>by omega⟩
 rw [decide_eq_false h_0,cond_false]
 have⟨r1,e1,l1,s1⟩:=Qj (n:=n) (left:=r0) hR.2.1 (show(0:Int)<=r0 by omega) (by omega) hn
 rw [e1,Option.bind_some]
 by_cases h_1:r1<0
 ·rw [decide_eq_true h_1];exact⟨-1,z,by omega,fun h=>by omega⟩
 rw [decide_eq_false h_1,cond_false]
 have⟨r2,e2,l2,s2⟩:=Qj (n:=n) (left:=r1) hR.2.2 (show(0:Int)<=r1 by omega) (by omega) hn
 rw [e2,Option.bind_some]
 by_cases h_2:r2<0
 ·rw [decide_eq_true h_2];exact⟨-1,z,by omega,fun h=>by omega⟩
 rw [decide_eq_false h_2,cond_false]
 exact⟨_,z,by omega,fun _=>⟨s0 (by omega),s1 (by omega),s2 (by omega)⟩⟩
theorem Vx{n:Nat}{a:List AJ}{left:Int}(hR:(fun xs=>xs.length<=9223372036854775807∧∀x∈xs,MY x) a)(h0:0<=left)(h1:left<=1048576)(hn:1048577<=n):∃r,Xk n a left=some r∧r<=left∧(0<=r->(fun xs=>xs.length<=1048576∧∀x∈xs,Hq x) a):=by
 have hl:=hR.1
 rw [Xk,Ac (by omega) (by omega)]
 by_cases h:left-(a.length:Int)<0
 ·rw [decide_eq_true h];exact⟨-1,z,by omega,fun h=>by omega⟩
 ·rw [decide_eq_false h];exact⟨_,z,by omega,fun _=>⟨by omega,fun x _=>⟨trivial,⟨trivial,trivial⟩⟩⟩⟩
theorem hO{n:Nat}{a:BA}{left:Int}(hR:Pz a)(h0:0<=left)(h1:left<=1048576)(hn:1048577<=n):∃r,dJ n a left=some r∧r<=left∧(0<=r->OP a):=by
 rw [dJ]
 have⟨r0,e0,l0,s0⟩:=UW (n:=n) (left:=left) hR.1 h0 h1 hn
 rw [e0,Option.bind_some]
 by_cases h_0:r0<0
 ·rw [decide_eq_true h_0];exact⟨-1,z,by omega,fun h=>by omega⟩
 rw [decide_eq_false h_0,cond_false]
 have⟨r1,e1,l1,s1⟩:=Qj (n:=n) (left:=r0) hR.2 (show(0:Int)<=r0 by omega) (by omega) hn
 rw [e1,Option.bind_some]
 by_cases h_1:r1<0
 ·rw [decide_eq_true h_1];exact⟨-1,z,by omega,fun h=>by omega⟩
 rw [decide_eq_false h_1,cond_false]
 exact⟨_,z,by omega,fun _=>⟨s0 (by omega),s1 (by omega)⟩⟩
theorem PM{n:Nat}{a:List Int}{k:Int->List Int->Option (List Int)}:∀(m:Nat) (i:Int) (l:List Int),Mx a k m i l=SO a (some) k m i l
 |0,_,_=>rfl
 |m+1,i,l=>by simp only [Mx.eq_2,Ht,Option.bind_some,PM (n:=n) (a:=a) (k:=k) m]
theorem Ei{n:Nat}{a:List Int}(h:(fun xs=>xs.length<=1048576∧∀x∈xs,(fun _=>True) x) a)(hn:1048577<=n):St n a=some a:=by
 rw [St,DX h.1 (by omega),Option.bind_some,PM (n:=n)]
 exact GM (fun x hx=>z) h.1 hn
theorem tW{n:Nat}{a:BR}(h:JO a)(hn:1048577<=n):Xi n a=some a:=by
 rfl
theorem Uc{n:Nat}{a:List BR}{k:Int->List BR->Option (List BR)}:∀(m:Nat) (i:Int) (l:List BR),Kv n a k m i l=SO a (Xi n) k m i l
 |0,_,_=>rfl
 |m+1,i,l=>by simp only [Kv.eq_2,Ht,Option.bind_some,Uc (n:=n) (a:=a) (k:=k) m]
theorem mT{n:Nat}{a:List BR}(h:(fun xs=>xs.length<=1048576∧∀x∈xs,JO x) a)(hn:1048577<=n):XY n a=some a:=by
 rw [XY,DX h.1 (by omega),Option.bind_some,Uc (n:=n)]
 exact GM (fun x hx=>tW (h.2 x hx) hn) h.1 hn
theorem iL{n:Nat}{a:Aa}(h:Dx a)(hn:1048577<=n):Wg n a=some a:=by
 rw [Wg];simp only [Ei (h.1) hn,Ei (h.2.1) hn,Ei (h.2.2) hn,Option.bind_some]
theorem PJ{n:Nat}{a:List Aa}{k:Int->List Aa->Option (List Aa)}:∀(m:Nat) (i:Int) (l:List Aa),Km n a k m i l=SO a (Wg n) k m i l
 |0,_,_=>rfl
 |m+1,i,l=>by simp only [Km.eq_2,Ht,Option.bind_some,PJ (n:=n) (a:=a) (k:=k) m]
theorem Rt{n:Nat}{a:List Aa}(h:(fun xs=>xs.length<=1048576∧∀x∈xs,Dx x) a)(hn:1048577<=n):WT n a=some a:=by
 rw [WT,DX h.1 (by omega),Option.bind_some,PJ (n:=n)]
 exact GM (fun x hx=>iL (h.2 x hx) hn) h.1 hn
theorem xL{n:Nat}{a:Ap}(h:JZ a)(hn:1048577<=n):WU n a=some a:=by
 rw [WU];simp only [Rt (h.2.2.2.2.1) hn,Rt (h.2.2.2.2.2) hn,Option.bind_some]
theorem Ud{n:Nat}{a:List Ap}{k:Int->List Ap->Option (List Ap)}:∀(m:Nat) (i:Int) (l:List Ap),KT n a k m i l=SO a (WU n) k m i l
 |0,_,_=>rfl
 |m+1,i,l=>by simp only [KT.eq_2,Ht,Option.bind_some,Ud (n:=n) (a:=a) (k:=k) m]
theorem mD{n:Nat}{a:List Ap}(h:(fun xs=>xs.length<=1048576∧∀x∈xs,JZ x) a)(hn:1048577<=n):Xv n a=some a:=by
 rw [Xv,DX h.1 (by omega),Option.bind_some,Ud (n:=n)]
 exact GM (fun x hx=>xL (h.2 x hx) hn) h.1 hn
theorem pQ{n:Nat}{a:Af}(h:FK a)(hn:1048577<=n):WO n a=some a:=by
 rw [WO];simp only [mT (h.2.2.1) hn,mD (h.2.2.2.1) hn,Ei (h.2.2.2.2.1) hn,Option.bind_some]
theorem RW{n:Nat}{a:List Af}{k:Int->List Af->Option (List Af)}:∀(m:Nat) (i:Int) (l:List Af),Ku n a k m i l=SO a (WO n) k m i l
 |0,_,_=>rfl
 |m+1,i,l=>by simp only [Ku.eq_2,Ht,Option.bind_some,RW (n:=n) (a:=a) (k:=k) m]
theorem eU{n:Nat}{a:List Af}(h:(fun xs=>xs.length<=1048576∧∀x∈xs,FK x) a)(hn:1048577<=n):ZH n a=some a:=by
 rw [ZH,DX h.1 (by omega),Option.bind_some,RW (n:=n)]
 exact GM (fun x hx=>pQ (h.2 x hx) hn) h.1 hn
theorem WV{n:Nat}{a:Ad}(h:IE a)(hn:1048577<=n):Xa n a=some a:=by
 rw [Xa];simp only [eU (h) hn,Option.bind_some]
theorem TM{n:Nat}{a:AV}(h:EB a)(hn:1048577<=n):Vu n a=some a:=by
 rw [Vu];simp only [Ei (h.2.2) hn,Option.bind_some]
theorem Mf{n:Nat}{a:List AV}{k:Int->List AV->Option (List AV)}:∀(m:Nat) (i:Int) (l:List AV),KU n a k m i l=SO a (Vu n) k m i l
 |0,_,_=>rfl
 |m+1,i,l=>by simp only [KU.eq_2,Ht,Option.bind_some,Mf (n:=n) (a:=a) (k:=k) m]
theorem Rs{n:Nat}{a:List AV}(h:(fun xs=>xs.length<=1048576∧∀x∈xs,EB x) a)(hn:1048577<=n):Yn n a=some a:=by
 rw [Yn,DX h.1 (by omega),Option.bind_some,Mf (n:=n)]
 exact GM (fun x hx=>TM (h.2 x hx) hn) h.1 hn
theorem OI{n:Nat}{a:List ByteArray}{k:Int->List ByteArray->Option (List ByteArray)}:∀(m:Nat) (i:Int) (l:List ByteArray),KS a k m i l=SO a (some) k m i l
 |0,_,_=>rfl
 |m+1,i,l=>by simp only [KS.eq_2,Ht,Option.bind_some,OI (n:=n) (a:=a) (k:=k) m]
theorem VY{n:Nat}{a:List ByteArray}(h:(fun xs=>xs.length<=1048576∧∀x∈xs,(fun s=>s.size<=1048576) x) a)(hn:1048577<=n):Xo n a=some a:=by
 rw [Xo,DX h.1 (by omega),Option.bind_some,OI (n:=n)]
 exact GM (fun x hx=>z) h.1 hn
theorem mK{n:Nat}{a:BS}(h:Gz a)(hn:1048577<=n):Xe n a=some a:=by
 rfl
theorem RS{n:Nat}{a:List BS}{k:Int->List BS->Option (List BS)}:∀(m:Nat) (i:Int) (l:List BS),LD n a k m i l=SO a (Xe n) k m i l
 |0,_,_=>rfl
 |m+1,i,l=>by simp only [LD.eq_2,Ht,Option.bind_some,RS (n:=n) (a:=a) (k:=k) m]
theorem eM{n:Nat}{a:List BS}(h:(fun xs=>xs.length<=1048576∧∀x∈xs,Gz x) a)(hn:1048577<=n):YU n a=some a:=by
 rw [YU,DX h.1 (by omega),Option.bind_some,RS (n:=n)]
 exact GM (fun x hx=>mK (h.2 x hx) hn) h.1 hn
theorem XQ{n:Nat}{a:AQ}(h:Ky a)(hn:1048577<=n):dM n a=some a:=by
 rw [dM];simp only [Rs (h.1) hn,VY (h.2.1) hn,eM (h.2.2) hn,Option.bind_some]
theorem nU{n:Nat}{a:Av}(h:HQ a)(hn:1048577<=n):Vd n a=some a:=by
 rw [Vd];simp only [Ei (h.1) hn,Ei (h.2.1) hn,Ei (h.2.2.1) hn,Ei (h.2.2.2) hn,Option.bind_some]
theorem RP{n:Nat}{a:List Av}{k:Int->List Av->Option (List Av)}:∀(m:Nat) (i:Int) (l:List Av),Kb n a k m i l=SO a (Vd n) k m i l
 |0,_,_=>rfl
 |m+1,i,l=>by simp only [Kb.eq_2,Ht,Option.bind_some,RP (n:=n) (a:=a) (k:=k) m]
theorem gJ{n:Nat}{a:List Av}(h:(fun xs=>xs.length<=1048576∧∀x∈xs,HQ x) a)(hn:1048577<=n):XF n a=some a:=by
 rw [XF,DX h.1 (by omega),Option.bind_some,RP (n:=n)]
 exact GM (fun x hx=>nU (h.2 x hx) hn) h.1 hn
theorem iG{n:Nat}{a:AO}(h:Hj a)(hn:1048577<=n):TY n a=some a:=by
 rw [TY];simp only [WV (h.1) hn,XQ (h.2.1) hn,gJ (h.2.2) hn,Option.bind_some]
theorem YX{n:Nat}{a:Aj}(h:PQ a)(hn:1048577<=n):aQ n a=some a:=by
 rfl
theorem Rj{n:Nat}{a:List Bool}{k:Int->List Bool->Option (List Bool)}:∀(m:Nat) (i:Int) (l:List Bool),KZ a k m i l=SO a (some) k m i l
 |0,_,_=>rfl
 |m+1,i,l=>by simp only [KZ.eq_2,Ht,Option.bind_some,Rj (n:=n) (a:=a) (k:=k) m]
theorem Ua{n:Nat}{a:List Bool}(h:(fun xs=>xs.length<=1048576∧∀x∈xs,(fun _=>True) x) a)(hn:1048577<=n):Wb n a=some a:=by
 rw [Wb,DX h.1 (by omega),Option.bind_some,Rj (n:=n)]
 exact GM (fun x hx=>z) h.1 hn
theorem bH{n:Nat}{a:AX}(h:GT a)(hn:1048577<=n):Vt n a=some a:=by
 rfl
theorem SC{n:Nat}{a:List AX}{k:Int->List AX->Option (List AX)}:∀(m:Nat) (i:Int) (l:List AX),LB n a k m i l=SO a (Vt n) k m i l
 |0,_,_=>rfl
 |m+1,i,l=>by simp only [LB.eq_2,Ht,Option.bind_some,SC (n:=n) (a:=a) (k:=k) m]
theorem QR{n:Nat}{a:List AX}(h:(fun xs=>xs.length<=1048576∧∀x∈xs,GT x) a)(hn:1048577<=n):TJ n a=some a:=by
 rw [TJ,DX h.1 (by omega),Option.bind_some,SC (n:=n)]
 exact GM (fun x hx=>bH (h.2 x hx) hn) h.1 hn
theorem Yz{n:Nat}{a:Am}(h:Mk a)(hn:1048577<=n):TG n a=some a:=by
 rw [TG];simp only [Ua (h.1) hn,QR (h.2.1) hn,QR (h.2.2) hn,Option.bind_some]
theorem Zw{n:Nat}{a:AJ}(h:Hq a)(hn:1048577<=n):VV n a=some a:=by
 rw [VV];simp only [bH (h.2) hn,Option.bind_some]
theorem OC{n:Nat}{a:List AJ}{k:Int->List AJ->Option (List AJ)}:∀(m:Nat) (i:Int) (l:List AJ),Mj n a k m i l=SO a (VV n) k m i l
 |0,_,_=>rfl
 |m+1,i,l=>by simp only [Mj.eq_2,Ht,Option.bind_some,OC (n:=n) (a:=a) (k:=k) m]
theorem WB{n:Nat}{a:List AJ}(h:(fun xs=>xs.length<=1048576∧∀x∈xs,Hq x) a)(hn:1048577<=n):pW n a=some a:=by
 rw [pW,DX h.1 (by omega),Option.bind_some,OC (n:=n)]
 exact GM (fun x hx=>Zw (h.2 x hx) hn) h.1 hn
theorem gB{n:Nat}{a:BA}(h:OP a)(hn:1048577<=n):TK n a=some a:=by
 rw [TK];simp only [Ua (h.1) hn,QR (h.2) hn,Option.bind_some]
theorem aY{n:Nat}{a:AX}(h:GT a)(hn:1048577<=n):RY n a a=some true:=by
 simp [RY]
theorem SU{n:Nat}{a:AJ}(h:Hq a)(hn:1048577<=n):Py n a a=some true:=by
 simp [Py,aY (h.2) hn]
theorem Pc{n:Nat}{a b:List Int}{k:Int->Option Bool}:∀(m:Nat) (i:Int),Mg a b k m i=Ss a b ((fun x y=>some (x==y))) (some false) k m i
 |0,_=>rfl
 |m+1,i=>by simp only [Mg.eq_2,Hk,Option.bind_some,bne,Pc (n:=n) (a:=a) (b:=b) (k:=k) m]
theorem Ek{n:Nat}{a:List Int}(h:(fun xs=>xs.length<=1048576∧∀x∈xs,(fun _=>True) x) a)(hn:1048577<=n):Ui n a a=some true:=by
 rw [Ui,Pc (n:=n)]
 have:=Dw (f:=(fun x y=>some (x==y))) (no:=some false) (k:=fun(i:Int)=>some true) (fun x hx=>by simp) h.1 n 0 (by omega) (by omega)
 simpa using this
theorem xH{n:Nat}{a:BR}(h:JO a)(hn:1048577<=n):UJ n a a=some true:=by
 simp [UJ]
theorem VN{n:Nat}{a b:List BR}{k:Int->Option Bool}:∀(m:Nat) (i:Int),Ke n a b k m i=Ss a b (UJ n) (some false) k m i
 |0,_=>rfl
 |m+1,i=>by simp only [Ke.eq_2,Hk,Option.bind_some,bne,VN (n:=n) (a:=a) (b:=b) (k:=k) m]
theorem oM{n:Nat}{a:List BR}(h:(fun xs=>xs.length<=1048576∧∀x∈xs,JO x) a)(hn:1048577<=n):Zt n a a=some true:=by
 rw [Zt,VN (n:=n)]
 have:=Dw (f:=UJ n) (no:=some false) (k:=fun(i:Int)=>some true) (fun x hx=>xH (h.2 x hx) hn) h.1 n 0 (by omega) (by omega)
 simpa using this
theorem iU{n:Nat}{a:Aa}(h:Dx a)(hn:1048577<=n):Tv n a a=some true:=by
 simp [Tv,Ek (h.1) hn,Ek (h.2.1) hn,Ek (h.2.2) hn]
theorem PL{n:Nat}{a b:List Aa}{k:Int->Option Bool}:∀(m:Nat) (i:Int),Kz n a b k m i=Ss a b (Tv n) (some false) k m i
 |0,_=>rfl
 |m+1,i=>by simp only [Kz.eq_2,Hk,Option.bind_some,bne,PL (n:=n) (a:=a) (b:=b) (k:=k) m]
theorem SW{n:Nat}{a:List Aa}(h:(fun xs=>xs.length<=1048576∧∀x∈xs,Dx x) a)(hn:1048577<=n):Vo n a a=some true:=by
 rw [Vo,PL (n:=n)]
 have:=Dw (f:=Tv n) (no:=some false) (k:=fun(i:Int)=>some true) (fun x hx=>iU (h.2 x hx) hn) h.1 n 0 (by omega) (by omega)
 simpa using this
theorem uF{n:Nat}{a:Ap}(h:JZ a)(hn:1048577<=n):Tw n a a=some true:=by
 simp [Tw,SW (h.2.2.2.2.1) hn,SW (h.2.2.2.2.2) hn]
theorem VI{n:Nat}{a b:List Ap}{k:Int->Option Bool}:∀(m:Nat) (i:Int),Ka n a b k m i=Ss a b (Tw n) (some false) k m i
 |0,_=>rfl
 |m+1,i=>by simp only [Ka.eq_2,Hk,Option.bind_some,bne,VI (n:=n) (a:=a) (b:=b) (k:=k) m]
theorem qN{n:Nat}{a:List Ap}(h:(fun xs=>xs.length<=1048576∧∀x∈xs,JZ x) a)(hn:1048577<=n):Xb n a a=some true:=by
 rw [Xb,VI (n:=n)]
 have:=Dw (f:=Tw n) (no:=some false) (k:=fun(i:Int)=>some true) (fun x hx=>uF (h.2 x hx) hn) h.1 n 0 (by omega) (by omega)
 simpa using this
theorem rB{n:Nat}{a:Af}(h:FK a)(hn:1048577<=n):UI n a a=some true:=by
 simp [UI,oM (h.2.2.1) hn,qN (h.2.2.2.1) hn,Ek (h.2.2.2.2.1) hn]
theorem RR{n:Nat}{a b:List Af}{k:Int->Option Bool}:∀(m:Nat) (i:Int),Kw n a b k m i=Ss a b (UI n) (some false) k m i
 |0,_=>rfl
 |m+1,i=>by simp only [Kw.eq_2,Hk,Option.bind_some,bne,RR (n:=n) (a:=a) (b:=b) (k:=k) m]
theorem eP{n:Nat}{a:List Af}(h:(fun xs=>xs.length<=1048576∧∀x∈xs,FK x) a)(hn:1048577<=n):ZP n a a=some true:=by
 rw [ZP,RR (n:=n)]
 have:=Dw (f:=UI n) (no:=some false) (k:=fun(i:Int)=>some true) (fun x hx=>rB (h.2 x hx) hn) h.1 n 0 (by omega) (by omega)
 simpa using this
theorem Vs{n:Nat}{a:Ad}(h:IE a)(hn:1048577<=n):YL n a a=some true:=by
 simp [YL,eP (h) hn]
theorem Ti{n:Nat}{a:AV}(h:EB a)(hn:1048577<=n):UN n a a=some true:=by
 simp [UN,Ek (h.2.2) hn]
theorem MM{n:Nat}{a b:List AV}{k:Int->Option Bool}:∀(m:Nat) (i:Int),Kp n a b k m i=Ss a b (UN n) (some false) k m i
 |0,_=>rfl
 |m+1,i=>by simp only [Kp.eq_2,Hk,Option.bind_some,bne,MM (n:=n) (a:=a) (b:=b) (k:=k) m]
theorem Rx{n:Nat}{a:List AV}(h:(fun xs=>xs.length<=1048576∧∀x∈xs,EB x) a)(hn:1048577<=n):XK n a a=some true:=by
 rw [XK,MM (n:=n)]
 have:=Dw (f:=UN n) (no:=some false) (k:=fun(i:Int)=>some true) (fun x hx=>Ti (h.2 x hx) hn) h.1 n 0 (by omega) (by omega)
 simpa using this
theorem OZ{n:Nat}{a b:List ByteArray}{k:Int->Option Bool}:∀(m:Nat) (i:Int),Kj a b k m i=Ss a b ((fun x y=>some (x.toList==y.toList))) (some false) k m i
 |0,_=>rfl
 |m+1,i=>by simp only [Kj.eq_2,Hk,Option.bind_some,bne,OZ (n:=n) (a:=a) (b:=b) (k:=k) m]
theorem Wj{n:Nat}{a:List ByteArray}(h:(fun xs=>xs.length<=1048576∧∀x∈xs,(fun s=>s.size<=1048576) x) a)(hn:1048577<=n):bN n a a=some true:=by
 rw [bN,OZ (n:=n)]
 have:=Dw (f:=(fun x y=>some (x.toList==y.toList))) (no:=some false) (k:=fun(i:Int)=>some true) (fun x hx=>by simp) h.1 n 0 (by omega) (by omega)
 simpa using this
theorem lG{n:Nat}{a:BS}(h:Gz a)(hn:1048577<=n):TQ n a a=some true:=by
 simp [TQ]
theorem RO{n:Nat}{a b:List BS}{k:Int->Option Bool}:∀(m:Nat) (i:Int),Kr n a b k m i=Ss a b (TQ n) (some false) k m i
 |0,_=>rfl
 |m+1,i=>by simp only [Kr.eq_2,Hk,Option.bind_some,bne,RO (n:=n) (a:=a) (b:=b) (k:=k) m]
theorem fS{n:Nat}{a:List BS}(h:(fun xs=>xs.length<=1048576∧∀x∈xs,Gz x) a)(hn:1048577<=n):YR n a a=some true:=by
 rw [YR,RO (n:=n)]
 have:=Dw (f:=TQ n) (no:=some false) (k:=fun(i:Int)=>some true) (fun x hx=>lG (h.2 x hx) hn) h.1 n 0 (by omega) (by omega)
 simpa using this
theorem cZ{n:Nat}{a:AQ}(h:Ky a)(hn:1048577<=n):dR n a a=some true:=by
 simp [dR,Rx (h.1) hn,Wj (h.2.1) hn,fS (h.2.2) hn]
theorem rE{n:Nat}{a:Av}(h:HQ a)(hn:1048577<=n):TT n a a=some true:=by
 simp [TT,Ek (h.1) hn,Ek (h.2.1) hn,Ek (h.2.2.1) hn,Ek (h.2.2.2) hn]
theorem SD{n:Nat}{a b:List Av}{k:Int->Option Bool}:∀(m:Nat) (i:Int),Kh n a b k m i=Ss a b (TT n) (some false) k m i
 |0,_=>rfl
 |m+1,i=>by simp only [Kh.eq_2,Hk,Option.bind_some,bne,SD (n:=n) (a:=a) (b:=b) (k:=k) m]
theorem eZ{n:Nat}{a:List Av}(h:(fun xs=>xs.length<=1048576∧∀x∈xs,HQ x) a)(hn:1048577<=n):bZ n a a=some true:=by
 rw [bZ,SD (n:=n)]
 have:=Dw (f:=TT n) (no:=some false) (k:=fun(i:Int)=>some true) (fun x hx=>rE (h.2 x hx) hn) h.1 n 0 (by omega) (by omega)
 simpa using this
theorem fJ{n:Nat}{a:AO}(h:Hj a)(hn:1048577<=n):Xs n a a=some true:=by
 simp [Xs,Vs (h.1) hn,cZ (h.2.1) hn,eZ (h.2.2) hn]
theorem Sd{n:Nat}{a b:List Bool}{k:Int->Option Bool}:∀(m:Nat) (i:Int),Ks a b k m i=Ss a b ((fun x y=>some (x==y))) (some false) k m i
 |0,_=>rfl
 |m+1,i=>by simp only [Ks.eq_2,Hk,Option.bind_some,bne,Sd (n:=n) (a:=a) (b:=b) (k:=k) m]
theorem VE{n:Nat}{a:List Bool}(h:(fun xs=>xs.length<=1048576∧∀x∈xs,(fun _=>True) x) a)(hn:1048577<=n):Vr n a a=some true:=by
 rw [Vr,Sd (n:=n)]
 have:=Dw (f:=(fun x y=>some (x==y))) (no:=some false) (k:=fun(i:Int)=>some true) (fun x hx=>by simp) h.1 n 0 (by omega) (by omega)
 simpa using this
theorem Rf{n:Nat}{a b:List AX}{k:Int->Option Bool}:∀(m:Nat) (i:Int),KV n a b k m i=Ss a b (RY n) (some false) k m i
 |0,_=>rfl
 |m+1,i=>by simp only [KV.eq_2,Hk,Option.bind_some,bne,Rf (n:=n) (a:=a) (b:=b) (k:=k) m]
theorem QC{n:Nat}{a:List AX}(h:(fun xs=>xs.length<=1048576∧∀x∈xs,GT x) a)(hn:1048577<=n):TU n a a=some true:=by
 rw [TU,Rf (n:=n)]
 have:=Dw (f:=RY n) (no:=some false) (k:=fun(i:Int)=>some true) (fun x hx=>aY (h.2 x hx) hn) h.1 n 0 (by omega) (by omega)
 simpa using this
theorem Zz{n:Nat}{a:Am}(h:Mk a)(hn:1048577<=n):ZO n a a=some true:=by
 simp [ZO,VE (h.1) hn,QC (h.2.1) hn,QC (h.2.2) hn]
theorem Od{n:Nat}{a b:List AJ}{k:Int->Option Bool}:∀(m:Nat) (i:Int),LC n a b k m i=Ss a b (Py n) (some false) k m i
 |0,_=>rfl
 |m+1,i=>by simp only [LC.eq_2,Hk,Option.bind_some,bne,Od (n:=n) (a:=a) (b:=b) (k:=k) m]
theorem VW{n:Nat}{a:List AJ}(h:(fun xs=>xs.length<=1048576∧∀x∈xs,Hq x) a)(hn:1048577<=n):XL n a a=some true:=by
 rw [XL,Od (n:=n)]
 have:=Dw (f:=Py n) (no:=some false) (k:=fun(i:Int)=>some true) (fun x hx=>SU (h.2 x hx) hn) h.1 n 0 (by omega) (by omega)
 simpa using this
theorem jI{n:Nat}{a:BA}(h:OP a)(hn:1048577<=n):Xq n a a=some true:=by
 simp [Xq,VE (h.1) hn,QC (h.2) hn]
theorem Ho:Rd prog 2 (AH .i64) (Jk .i64):=Rd.int ud2
theorem WF:Rd prog 9 At (fun s=>s.size<=maxLen):=Rd.str Sr
theorem uI:Rd prog 4 Aq (fun _=>True):=Rd.bool qI
theorem rY:Rd prog 267 C_Pin SF:=Rd.map (Rd.struct (fs:=[_,_,_,_]) uG (by kernel_rfl) (FZ.cons WF rfl (by kernel_rfl) (FZ.cons Ho rfl (by kernel_rfl) (FZ.cons Ho rfl (by kernel_rfl) (FZ.one uI rfl (by kernel_rfl)))))) (fun(x:BR)=>(x.Name,x.Dir,x.Cap,x.Clock)) (fun p=>(⟨p.1,p.2.1,p.2.2.1,p.2.2.2⟩:BR)) (fun _=>rfl)
theorem lU:Rd prog 192 (DI C_Pin) (fun xs=>xs.length<=9223372036854775807∧∀x∈xs,SF x):=Rd.slice Oi (by kernel_rfl) rfl rY
theorem MV:Rd prog 35 (DI (AH .i64)) (fun xs=>xs.length<=9223372036854775807∧∀x∈xs,(Jk .i64) x):=Rd.slice Ab (by kernel_rfl) rfl Ho
theorem nX:Rd prog 315 C_Table LA:=Rd.map (Rd.struct (fs:=[_,_,_]) uY (by kernel_rfl) (FZ.cons MV rfl (by kernel_rfl) (FZ.cons MV rfl (by kernel_rfl) (FZ.one MV rfl (by kernel_rfl))))) (fun(x:Aa)=>(x.Slews,x.Loads,x.Values)) (fun p=>(⟨p.1,p.2.1,p.2.2⟩:Aa)) (fun _=>rfl)
theorem aX:Rd prog 269 (DI C_Table) (fun xs=>xs.length<=9223372036854775807∧∀x∈xs,LA x):=Rd.slice Nz (by kernel_rfl) rfl nX
theorem qC:Rd prog 271 C_Arc SP:=Rd.map (Rd.struct (fs:=[_,_,_,_,_,_]) yM (by kernel_rfl) (FZ.cons Ho rfl (by kernel_rfl) (FZ.cons Ho rfl (by kernel_rfl) (FZ.cons Ho rfl (by kernel_rfl) (FZ.cons Ho rfl (by kernel_rfl) (FZ.cons aX rfl (by kernel_rfl) (FZ.one aX rfl (by kernel_rfl)))))))) (fun(x:Ap)=>(x.Kind,x.From,x.To,x.Sense,x.Delay,x.Slew)) (fun p=>(⟨p.1,p.2.1,p.2.2.1,p.2.2.2.1,p.2.2.2.2.1,p.2.2.2.2.2⟩:Ap)) (fun _=>rfl)
theorem mF:Rd prog 193 (DI C_Arc) (fun xs=>xs.length<=9223372036854775807∧∀x∈xs,SP x):=Rd.slice Nd (by kernel_rfl) rfl qC
theorem nD:Rd prog 195 C_Cell Oq:=Rd.map (Rd.struct (fs:=[_,_,_,_,_,_,_]) wJ (by kernel_rfl) (FZ.cons WF rfl (by kernel_rfl) (FZ.cons Ho rfl (by kernel_rfl) (FZ.cons lU rfl (by kernel_rfl) (FZ.cons mF rfl (by kernel_rfl) (FZ.cons MV rfl (by kernel_rfl) (FZ.cons Ho rfl (by kernel_rfl) (FZ.one Ho rfl (by kernel_rfl))))))))) (fun(x:Af)=>(x.Name,x.Kind,x.Pins,x.Arcs,x.Truth,x.Leak,x.Energy)) (fun p=>(⟨p.1,p.2.1,p.2.2.1,p.2.2.2.1,p.2.2.2.2.1,p.2.2.2.2.2.1,p.2.2.2.2.2.2⟩:Af)) (fun _=>rfl)
theorem xP:Rd prog 22 (DI C_Cell) (fun xs=>xs.length<=9223372036854775807∧∀x∈xs,Oq x):=Rd.slice TD (by kernel_rfl) rfl nD
theorem wI:Rd prog 24 Mr NF:=Rd.map (Rd.struct (fs:=[_]) AdP (by kernel_rfl) (FZ.one xP rfl (by kernel_rfl))) (fun(x:Ad)=>x.Cells) (fun p=>(⟨p⟩:Ad)) (fun _=>rfl)
theorem lT:Rd prog 197 C_Instance Gq:=Rd.map (Rd.struct (fs:=[_,_,_]) wU (by kernel_rfl) (FZ.cons WF rfl (by kernel_rfl) (FZ.cons Ho rfl (by kernel_rfl) (FZ.one MV rfl (by kernel_rfl))))) (fun(x:AV)=>(x.Name,x.Cell,x.Nets)) (fun p=>(⟨p.1,p.2.1,p.2.2⟩:AV)) (fun _=>rfl)
theorem tZ:Rd prog 25 (DI C_Instance) (fun xs=>xs.length<=9223372036854775807∧∀x∈xs,Gq x):=Rd.slice UC (by kernel_rfl) rfl lT
theorem sR:Rd prog 26 (DI At) (fun xs=>xs.length<=9223372036854775807∧∀x∈xs,(fun s=>s.size<=maxLen) x):=Rd.slice DN (by kernel_rfl) rfl WF
theorem oS:Rd prog 200 C_Port OO:=Rd.map (Rd.struct (fs:=[_,_,_]) wE (by kernel_rfl) (FZ.cons WF rfl (by kernel_rfl) (FZ.cons Ho rfl (by kernel_rfl) (FZ.one Ho rfl (by kernel_rfl))))) (fun(x:BS)=>(x.Name,x.Dir,x.Net)) (fun p=>(⟨p.1,p.2.1,p.2.2⟩:BS)) (fun _=>rfl)
theorem tB:Rd prog 27 (DI C_Port) (fun xs=>xs.length<=9223372036854775807∧∀x∈xs,OO x):=Rd.slice UR (by kernel_rfl) rfl oS
theorem xD:Rd prog 29 OR Nv:=Rd.map (Rd.struct (fs:=[_,_,_]) AdZ (by kernel_rfl) (FZ.cons tZ rfl (by kernel_rfl) (FZ.cons sR rfl (by kernel_rfl) (FZ.one tB rfl (by kernel_rfl))))) (fun(x:AQ)=>(x.Instances,x.Nets,x.Ports)) (fun p=>(⟨p.1,p.2.1,p.2.2⟩:AQ)) (fun _=>rfl)
theorem rD:Rd prog 131 C_Wire OG:=Rd.map (Rd.struct (fs:=[_,_,_,_]) tP (by kernel_rfl) (FZ.cons MV rfl (by kernel_rfl) (FZ.cons MV rfl (by kernel_rfl) (FZ.cons MV rfl (by kernel_rfl) (FZ.one MV rfl (by kernel_rfl)))))) (fun(x:Av)=>(x.Parent,x.Res,x.Cap,x.Sink)) (fun p=>(⟨p.1,p.2.1,p.2.2.1,p.2.2.2⟩:Av)) (fun _=>rfl)
theorem vO:Rd prog 30 (DI C_Wire) (fun xs=>xs.length<=9223372036854775807∧∀x∈xs,OG x):=Rd.slice Te (by kernel_rfl) rfl rD
theorem AgY:Rd prog 32 C_Block QH:=Rd.map (Rd.struct (fs:=[_,_,_]) AgD (by kernel_rfl) (FZ.cons wI rfl (by kernel_rfl) (FZ.cons xD rfl (by kernel_rfl) (FZ.one vO rfl (by kernel_rfl))))) (fun(x:AO)=>(x.Library,x.Design,x.Wires)) (fun p=>(⟨p.1,p.2.1,p.2.2⟩:AO)) (fun _=>rfl)
theorem AgZ:Rd prog 34 C_Corner Oh:=Rd.map (Rd.struct (fs:=[_,_,_,_,_]) AaL (by kernel_rfl) (FZ.cons WF rfl (by kernel_rfl) (FZ.cons Ho rfl (by kernel_rfl) (FZ.cons Ho rfl (by kernel_rfl) (FZ.cons Ho rfl (by kernel_rfl) (FZ.one Ho rfl (by kernel_rfl))))))) (fun(x:Aj)=>(x.Name,x.CellEarly,x.CellLate,x.WireEarly,x.WireLate)) (fun p=>(⟨p.1,p.2.1,p.2.2.1,p.2.2.2.1,p.2.2.2.2⟩:Aj)) (fun _=>rfl)
theorem jZ:Rd prog 36 (DI Aq) (fun xs=>xs.length<=9223372036854775807∧∀x∈xs,(fun _=>True) x):=Rd.slice Db (by kernel_rfl) rfl uI
theorem Wy:Rd prog 107 C_Span MD:=Rd.map (Rd.struct (fs:=[_,_]) vK (by kernel_rfl) (FZ.cons Ho rfl (by kernel_rfl) (FZ.one Ho rfl (by kernel_rfl)))) (fun(x:AX)=>(x.Early,x.Late)) (fun p=>(⟨p.1,p.2⟩:AX)) (fun _=>rfl)
theorem aW:Rd prog 37 (DI C_Span) (fun xs=>xs.length<=9223372036854775807∧∀x∈xs,MD x):=Rd.slice aR (by kernel_rfl) rfl Wy
theorem AhA:Rd prog 39 C_Timing Nq:=Rd.map (Rd.struct (fs:=[_,_,_]) AdU (by kernel_rfl) (FZ.cons jZ rfl (by kernel_rfl) (FZ.cons aW rfl (by kernel_rfl) (FZ.one aW rfl (by kernel_rfl))))) (fun(x:Am)=>(x.Reached,x.Arrival,x.Slew)) (fun p=>(⟨p.1,p.2.1,p.2.2⟩:Am)) (fun _=>rfl)
theorem qS:Rd prog 109 C_Target MY:=Rd.map (Rd.struct (fs:=[_,_]) wA (by kernel_rfl) (FZ.cons Ho rfl (by kernel_rfl) (FZ.one Wy rfl (by kernel_rfl)))) (fun(x:AJ)=>(x.Node,x.Required)) (fun p=>(⟨p.1,p.2⟩:AJ)) (fun _=>rfl)
theorem AgW:Rd prog 40 (DI C_Target) (fun xs=>xs.length<=9223372036854775807∧∀x∈xs,MY x):=Rd.slice cY (by kernel_rfl) rfl qS
theorem AgX:Rd prog 42 C_Needs Pz:=Rd.map (Rd.struct (fs:=[_,_]) AcZ (by kernel_rfl) (FZ.cons jZ rfl (by kernel_rfl) (FZ.one aW rfl (by kernel_rfl)))) (fun(x:BA)=>(x.Bound,x.Required)) (fun p=>(⟨p.1,p.2⟩:BA)) (fun _=>rfl)
end Go.Proofs.YtaijnchdfgojiaaGreatDoor
