/- The walks: every function that FnGates reaches computes the plain function that is typed beside it; no condition. -/
import Derived.Test.YtejmafeocaidlaaDoorWalkFnGatesB0
set_option linter.all false
set_option maxRecDepth 20000
set_option maxHeartbeats 40000000
namespace Go.Proofs.YtejmafeocaidlaaDoor
open Go Go.RowKit Go.Eng Go.Proofs.Tryd
open Go.IntKind (wrap)
variable {n H:Nat} {w:World}
def Lv(n:Nat)(a0:List Int):Option Bool:=some (decide ((a0.length:Int)>4096))
theorem SF{a:List Int}{b:Bool}{c:Value}(d:Lv n a=some b)(g:H<=w.heap.size)(f:BF (AI .u8) w H a c):
 Calls prog 4 [c].toArray w (BO (.bool b) w):=by
 have e:=AO.refl w;unfold Lv at d;exact AF func4 z ntmps4 (Rc 8 (Yl z (FJ z GD (f.oj e)) (DF d e)))
def EV(a0:List Int)(k0:Int->Int->Int->Option Bh):Nat->Int->Int->Int->Option Bh
 |0,_,_,_=>none
 |m+1,a,c,b=>cond (decide (a<(a0.length:Int))) ((AS a0 a).bind fun d=>EV a0 k0 m (wrap .i64 (a+1)) c (IntKind.wrap IntKind.u64 ((IntKind.wrap IntKind.u64 ((IntKind.wrap IntKind.u64 (b*1099511628211))+(IntKind.wrap IntKind.u64 d)))+3))) (k0 a c b)
def PO(n:Nat)(a0:List Int)(a1:Int):Option Bh:=EV a0 (fun c b a=>some ((Bh.mk a0 b a))) n 0 0 (IntKind.wrap IntKind.u64 ((IntKind.wrap IntKind.u64 (a1*7919))+(IntKind.wrap IntKind.u64 ((a0.length:Int)))))
theorem Sm{e:List Int}{f:Int}{i:Bh}{c:Value}(a:PO n e f=some i)(L:H<=w.heap.size)(j:BF (AI .u8) w H e c):
 Calls prog 5 [c,.int .u64 f].toArray w (DY fun y r=>∃p,y= .p p∧Ap r p [c,.i i.i_,.int .u64 i.h_] 39∧w.heap.size<=p∧AO w r):=by
 have s:=AO.refl w;unfold PO at a;refine AF func5 z ntmps5 (Rc 11 (Yl z (FJ z GD (j.oj s)) (Yl z (Bg z SQ Na z) (Ro 1 (Yl z (BQ (uss:=[(0,[c]),(2,[.int .u64 (IntKind.wrap IntKind.u64 ((IntKind.wrap IntKind.u64 (f*7919))+(IntKind.wrap IntKind.u64 ((e.length:Int)))))])]) (out:=[c,.i 0,.int .u64 (IntKind.wrap IntKind.u64 ((IntKind.wrap IntKind.u64 (f*7919))+(IntKind.wrap IntKind.u64 ((e.length:Int)))))]) z z PS Pn (BH (AD.cl (j.oj s)) (BH z z)) z) (Ef z (Ak z z) ?_))))));rintro _ A ⟨t,rfl,M,N,u,B⟩;have O:=u.size;have⟨C,D,a⟩:=Qi a;refine Ro 10 (WC.loopD (fun g k wl=>∃l m o:Int,Kn 38 [(0,c),(5,.p t),(6,.i l)] k∧AO w wl∧A.heap.size<=wl.heap.size∧Ap wl t [c,.i m,.int .u64 o] 39∧EV e C g l m o=some i) n ?_ ?_)
 ·intro k h;exact⟨0,0,(IntKind.wrap IntKind.u64 ((IntKind.wrap IntKind.u64 (f*7919))+(IntKind.wrap IntKind.u64 ((e.length:Int))))),h.sub z,u,nr,B,a⟩
 ·rintro g k P ⟨l,m,o,h,q,Q,d,a⟩;refine Dj h ?_;rcases g with _|g;exact Dp a;rw [EV.eq_2]at a;refine Rc 5 (Yl z (FJ z GD (j.oj q)) (Ro 3 (Wc z a ?_ ?_)))
  ·intro a;have⟨E,F,a⟩:=AM a;refine Rc 4 ?_;refine EP 13 Tryd.hm fun R v b=>?_;have⟨x,S⟩:=Et q v;have d:=d.ext v;refine IL b [0,1] (Cb 2 b z (AV z z) (Cb 3 b z (Bz z FC) (Cb 4 b z (EO z Kg d z) (IL b [5,6,7] (KO 8 b z (Mk z GD MH (j.oj x) F) ?_)))));rintro _ ⟨T,U,_,rfl,V,rfl,G⟩;refine Cb 9 b z (FX 0 z MI G z z) (Cb 10 b z (Bg z PP Na z) (IL b [11,12] (LZ z (Yl z (AV z z) (Yl z (Bz z FC) (Ef z (Bm z d NO z z) ?_))))));rintro _ W ⟨I,J⟩;have⟨K,X⟩:=Eu x I;have d:=J;refine TL.noPan (l:=[]) (Re 8 ?_);intro k h;exact⟨g,nr,(wrap .i64 (l+1)),m,(IntKind.wrap IntKind.u64 ((IntKind.wrap IntKind.u64 ((IntKind.wrap IntKind.u64 (o*1099511628211))+(IntKind.wrap IntKind.u64 E)))+3)),h.sub z,K,(by omega),d,a⟩
  ·intro a;refine Rc 3 ?_
   subst D
   refine Re 9 ?_;cases BV a;exact Ne z z ⟨_,z,_,z,d,(by omega),q⟩
def KX(n:Nat)(a0:Bh)(a1:Int):Option (Int×Bh):=cond (decide (a0.i_<(a0.b_.length:Int))) ((AS a0.b_ a0.i_).bind fun a=>cond (a1==0) none (some (Int.tmod (wrap .i64 ((wrap .i64 (EN .u64 (Fz .u64 (IntKind.wrap IntKind.u64 ((IntKind.wrap IntKind.u64 (a0.h_*6364136223846793005))+1442695040888963407)) 33) 16777215))+(wrap .i64 a))) a1,(Bh.mk a0.b_ (wrap .i64 (a0.i_+1)) (IntKind.wrap IntKind.u64 ((IntKind.wrap IntKind.u64 (a0.h_*6364136223846793005))+1442695040888963407)))))) (cond (a1==0) none (some (Int.tmod (wrap .i64 (EN .u64 (Fz .u64 (IntKind.wrap IntKind.u64 ((IntKind.wrap IntKind.u64 (a0.h_*6364136223846793005))+1442695040888963407)) 33) 16777215)) a1,(Bh.mk a0.b_ a0.i_ (IntKind.wrap IntKind.u64 ((IntKind.wrap IntKind.u64 (a0.h_*6364136223846793005))+1442695040888963407))))))
theorem Rq{e:Bh}{i:Int}{f:Int×Bh}{g:Value}{j h d:Nat}(b:KX n e i=some f)(a:Ap w d [g,.i e.i_,.int .u64 e.h_] 39)(c:AD (AI .u8) w (Iv j h) e.b_ g)(B:h<=w.heap.size)(C:d<j∨h<=d):
 Calls prog 9 [.p d,.i i].toArray w (DY fun q k=>q= .i f.1∧Ap k d [g,.i f.2.i_,.int .u64 f.2.h_] 39∧AR (pB d) w k):=by
 have r:AR (pB d) w w:=AR.refl _ w;have:=Ap.lt a;unfold KX at b;refine AF func9 z ntmps9 (Rc 9 (Yl z (AV z z) (Fl FC Kg a (Ro 2 (Yl z (AV z z) (Yl z (Bz z FC) (Ef z (Bm z a NO z z) ?_)))))));rintro _ D ⟨l,s⟩;have⟨t,E⟩:=HI r l (Or.inl z);have c:=c.upd l (by omega);have a:=s;refine Ro 5 (Yl z (AV z z) (Fl FC Kg a (Yl z (Fw z z z (by decide)) (Yl z (FD z z z) (Yl z (Bg z Na MV z) (Ro 5 (BZ Tryd.hm (Qr 1 (Qy z (AV z z) (Fq Fv Jt a (Qr 1 (Qy z (AV z z) (KA JA JN a GD c ?_)))))))))))));refine Qr 1 ?_;refine QL.done fun F m=>?_;have⟨o,G⟩:=Bl t m;have⟨a,c⟩:=DO a c m;refine Re 1 (Wc z b ?_ ?_)
 ·intro b;refine Rc 1 (BZ Tryd.hm (Qr 2 (Qy z (AV z z) (Fq JA JN a (Qr 1 (Qy z (AV z z) (Fq Fv Jt a (JL b c GD MH MI ?_))))))));rintro I b _;refine Qy z (Bg z PP MV z) (Qr 2 ?_);refine QL.done fun J H=>?_;have⟨u,K⟩:=Bl o H;have⟨a,c⟩:=DO a c H;refine Re 4 (Yl z (AV z z) (Fl Fv Jt a (Ro 1 (Yl z (AV z z) (Yl z (Bz z Fv) (Ef z (Bm z a Oo z z) ?_))))));rintro _ L ⟨p,v⟩;have⟨x,M⟩:=HI u p (Or.inl z);have c:=c.upd p (by omega);have a:=v;have⟨y,b⟩:=Fa b;refine Ro 6 (Yl z (DT z z z y) (Ro 4 ?_));cases BV b;exact Ne z z ⟨_,z,z,a,x⟩
 ·intro b;have⟨A,b⟩:=Fa b;refine Rc 6 (Yl z (DT z z z A) (Ro 4 ?_));cases BV b;exact Ne z z ⟨_,z,z,a,o⟩

theorem Qu:Rd prog 5 (AI .u8) (OO .u8):=Rd.int PP
theorem Sa:Rd prog 22 (Fp (AI .u8)) (fun xs=>xs.length<=9223372036854775807∧∀x∈xs,(OO .u8) x):=Rd.slice GD (by kernel_rfl) rfl Qu
end Go.Proofs.YtejmafeocaidlaaDoor
