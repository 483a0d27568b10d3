/- The walks: every function that FnGatingShift reaches computes the plain function that is typed beside it; no condition. -/
import Derived.Test.YthojemmmflaicacGreatDoorWalkFnGatingShiftB0
set_option linter.all false
set_option maxRecDepth 20000
set_option maxHeartbeats 40000000
namespace Go.Proofs.YthojemmmflaicacGreatDoor
open Go Go.RowKit Go.Eng Go.Proofs.Tryz
open Go.IntKind (wrap)
variable {n H:Nat} {w:World}
def XU(n:Nat)(a0:List Int):Option Bool:=some (decide ((a0.length:Int)>4096))
theorem oA{a:List Int}{b:Bool}{c:Value}(d:XU n a=some b)(g:H<=w.heap.size)(f:Am (AJ .u8) w H a c):
 Calls prog 4 [c].toArray w (Bc (.bool b) w):=by
 have e:=AR.refl w;unfold XU at d;exact AF func4 z ntmps4 (Rc 8 (Yl z (FJ z KD (f.oj e)) (Dv d e)))
def JH(a0:List Int)(k0:Int->Int->Int->Option Ea):Nat->Int->Int->Int->Option Ea
 |0,_,_,_=>none
 |m+1,a,b,c=>cond (decide (a<(a0.length:Int))) ((AL a0 a).bind fun d=>JH a0 k0 m (wrap .i64 (a+1)) b (IntKind.wrap IntKind.u64 ((IntKind.wrap IntKind.u64 ((IntKind.wrap IntKind.u64 (c*1099511628211))+(IntKind.wrap IntKind.u64 d)))+3))) (k0 a b c)
def Vk(n:Nat)(a0:List Int)(a1:Int):Option Ea:=JH a0 (fun c a b=>some ((Ea.mk a0 a b))) n 0 0 (IntKind.wrap IntKind.u64 ((IntKind.wrap IntKind.u64 (a1*7919))+(IntKind.wrap IntKind.u64 ((a0.length:Int)))))
theorem qA{e:List Int}{f:Int}{i:Ea}{c:Value}(a:Vk n e f=some i)(L:H<=w.heap.size)(j:Am (AJ .u8) w H e c):
 Calls prog 5 [c,.int .u64 f].toArray w (Dn fun y r=>∃p,y= .p p∧Ae r p [c,.i i.i_,.int .u64 i.h_] 52∧w.heap.size<=p∧AR w r):=by
 have s:=AR.refl w;unfold Vk at a;refine AF func5 z ntmps5 (Rc 11 (Yl z (FJ z KD (j.oj s)) (Yl z (Dy z rC ZZ z) (Ro 1 (Yl z (An (uss:=[(0,[c]),(2,[.int .u64 (IntKind.wrap IntKind.u64 ((IntKind.wrap IntKind.u64 (f*7919))+(IntKind.wrap IntKind.u64 ((e.length:Int)))))])]) (out:=[c,.i 0,.int .u64 (IntKind.wrap IntKind.u64 ((IntKind.wrap IntKind.u64 (f*7919))+(IntKind.wrap IntKind.u64 ((e.length:Int)))))]) z z iP fX (BE (AD.cl (j.oj s)) (BE z z)) z) (Ef z (AU z z) ?_))))));rintro _ A ⟨t,rfl,M,N,u,B⟩;have O:=u.size;have⟨C,D,a⟩:=Xv a;refine Ro 10 (WC.loopD (fun g k wl=>∃l m o:Int,Kn 38 [(0,c),(5,.p t),(6,.i l)] k∧AR w wl∧A.heap.size<=wl.heap.size∧Ae wl t [c,.i m,.int .u64 o] 52∧JH e C g l m o=some i) n ?_ ?_)
 ·intro k h;exact⟨0,0,(IntKind.wrap IntKind.u64 ((IntKind.wrap IntKind.u64 (f*7919))+(IntKind.wrap IntKind.u64 ((e.length:Int))))),h.sub z,u,nr,B,a⟩
 ·rintro g k P ⟨l,m,o,h,q,Q,d,a⟩;refine Cd h ?_;rcases g with _|g;exact Cc a;rw [JH.eq_2]at a;refine Rc 5 (Yl z (FJ z KD (j.oj q)) (Ro 3 (Wc z a ?_ ?_)))
  ·intro a;have⟨E,F,a⟩:=AK a;refine Rc 4 ?_;refine Co 13 Tryz.hm fun R v b=>?_;have⟨x,S⟩:=Et q v;have d:=d.ext v;refine EE b [0,1] (BT 2 b z (Ah z z) (BT 3 b z (BX z MN) (BT 4 b z (DO z UD d z) (EE b [5,6,7] (GY 8 b z (Jd z KD Xp (j.oj x) F) ?_)))));rintro _ ⟨T,U,_,rfl,V,rfl,G⟩;refine BT 9 b z (Dz 0 z Xk G z z) (BT 10 b z (Dy z Wv ZZ z) (EE b [11,12] (FN z (Yl z (Ah z z) (Yl z (BX z MN) (Ef z (BQ z d Yq z z) ?_))))));rintro _ W ⟨I,J⟩;have⟨K,X⟩:=Eu x I;have d:=J;refine TL.noPan (l:=[]) (Re 8 ?_);intro k h;exact⟨g,nr,(wrap .i64 (l+1)),m,(IntKind.wrap IntKind.u64 ((IntKind.wrap IntKind.u64 ((IntKind.wrap IntKind.u64 (o*1099511628211))+(IntKind.wrap IntKind.u64 E)))+3)),h.sub z,K,(by omega),d,a⟩
  ·intro a;refine Rc 3 ?_
   subst D
   refine Re 9 ?_;cases BM a;exact Ne z z ⟨_,z,_,z,d,(by omega),q⟩
def VZ(n:Nat)(a0:Ea)(a1:Int):Option (Int×Ea):=cond (decide (a0.i_<(a0.b_.length:Int))) ((AL a0.b_ a0.i_).bind fun a=>cond (a1==0) none (some (Int.tmod (wrap .i64 ((wrap .i64 (Lx .u64 (Of .u64 (IntKind.wrap IntKind.u64 ((IntKind.wrap IntKind.u64 (a0.h_*6364136223846793005))+1442695040888963407)) 33) 16777215))+(wrap .i64 a))) a1,(Ea.mk a0.b_ (wrap .i64 (a0.i_+1)) (IntKind.wrap IntKind.u64 ((IntKind.wrap IntKind.u64 (a0.h_*6364136223846793005))+1442695040888963407)))))) (cond (a1==0) none (some (Int.tmod (wrap .i64 (Lx .u64 (Of .u64 (IntKind.wrap IntKind.u64 ((IntKind.wrap IntKind.u64 (a0.h_*6364136223846793005))+1442695040888963407)) 33) 16777215)) a1,(Ea.mk a0.b_ a0.i_ (IntKind.wrap IntKind.u64 ((IntKind.wrap IntKind.u64 (a0.h_*6364136223846793005))+1442695040888963407))))))
theorem mZ{e:Ea}{i:Int}{f:Int×Ea}{g:Value}{j h d:Nat}(b:VZ n e i=some f)(a:Ae w d [g,.i e.i_,.int .u64 e.h_] 52)(c:AD (AJ .u8) w (Iv j h) e.b_ g)(B:h<=w.heap.size)(C:d<j∨h<=d):
 Calls prog 9 [.p d,.i i].toArray w (Dn fun q k=>q= .i f.1∧Ae k d [g,.i f.2.i_,.int .u64 f.2.h_] 52∧Ab (pB d) w k):=by
 have r:Ab (pB d) w w:=Ab.refl _ w;have:=Ae.lt a;unfold VZ at b;refine AF func9 z ntmps9 (Rc 9 (Yl z (Ah z z) (Fl MN UD a (Ro 2 (Yl z (Ah z z) (Yl z (BX z MN) (Ef z (BQ z a Yq z z) ?_)))))));rintro _ D ⟨l,s⟩;have⟨t,E⟩:=Lb r l (Or.inl z);have c:=c.upd l (by omega);have a:=s;refine Ro 5 (Yl z (Ah z z) (Fl MN UD a (Yl z (PR z z z (by decide)) (Yl z (Nc z z z) (Yl z (Dy z ZZ Wn z) (Ro 5 (Bi Tryz.hm (Qr 1 (Qy z (Ah z z) (Fq NT Pc a (Qr 1 (Qy z (Ah z z) (PN Sm Sn a KD c ?_)))))))))))));refine Qr 1 ?_;refine QL.done fun F m=>?_;have⟨o,G⟩:=Bp t m;have⟨a,c⟩:=Bx a c m;refine Re 1 (Wc z b ?_ ?_)
 ·intro b;refine Rc 1 (Bi Tryz.hm (Qr 2 (Qy z (Ah z z) (Fq Sm Sn a (Qr 1 (Qy z (Ah z z) (Fq NT Pc a (PA b c KD Xp Xk ?_))))))));rintro I b _;refine Qy z (Dy z Wv Wn z) (Qr 2 ?_);refine QL.done fun J H=>?_;have⟨u,K⟩:=Bp o H;have⟨a,c⟩:=Bx a c H;refine Re 4 (Yl z (Ah z z) (Fl NT Pc a (Ro 1 (Yl z (Ah z z) (Yl z (BX z NT) (Ef z (BQ z a Pk z z) ?_))))));rintro _ L ⟨p,v⟩;have⟨x,M⟩:=Lb u p (Or.inl z);have c:=c.upd p (by omega);have a:=v;have⟨y,b⟩:=LM b;refine Ro 6 (Yl z (Hm z z z y) (Ro 4 ?_));cases BM b;exact Ne z z ⟨_,z,z,a,x⟩
 ·intro b;have⟨A,b⟩:=LM b;refine Rc 6 (Yl z (Hm z z z A) (Ro 4 ?_));cases BM b;exact Ne z z ⟨_,z,z,a,o⟩

theorem oW:Rd prog 5 (AJ .u8) (dD .u8):=Rd.int Wv
theorem qZ:Rd prog 22 (FT (AJ .u8)) (fun xs=>xs.length<=9223372036854775807∧∀x∈xs,(dD .u8) x):=Rd.slice KD (by kernel_rfl) rfl oW
end Go.Proofs.YthojemmmflaicacGreatDoor
