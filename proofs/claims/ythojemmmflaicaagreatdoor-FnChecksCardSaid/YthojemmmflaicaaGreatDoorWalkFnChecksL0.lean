/- The walks: every function that FnChecks reaches computes the plain function that is typed beside it; no condition. -/
import Derived.Test.YthojemmmflaicaaGreatDoorWalkFnChecksB0
set_option linter.all false
set_option maxRecDepth 20000
set_option maxHeartbeats 40000000
namespace Go.Proofs.YthojemmmflaicaaGreatDoor
open Go Go.RowKit Go.Eng Go.Proofs.Tryz
open Go.IntKind (wrap)
variable {n H:Nat} {w:World}
def Yi(n:Nat)(a0:List Int):Option Bool:=some (decide ((a0.length:Int)>4096))
theorem mQ{a:List Int}{b:Bool}{c:Value}(d:Yi n a=some b)(g:H<=w.heap.size)(f:Ad (AG .u8) w H a c):
 Calls prog 4 [c].toArray w (BY (.bool b) w):=by
 have e:=AP.refl w;unfold Yi at d;exact AE func4 z ntmps4 (Rc 8 (Yl z (Ew z Kb (f.oj e)) (Dn d e)))
def JR(a0:List Int)(k0:Int->Int->Int->Option EN):Nat->Int->Int->Int->Option EN
 |0,_,_,_=>none
 |m+1,a,b,c=>cond (decide (a<(a0.length:Int))) ((AI a0 a).bind fun d=>JR a0 k0 m (wrap .i64 (a+1)) b (IntKind.wrap IntKind.u64 ((IntKind.wrap IntKind.u64 ((IntKind.wrap IntKind.u64 (c*1099511628211))+(IntKind.wrap IntKind.u64 d)))+3))) (k0 a b c)
def VE(n:Nat)(a0:List Int)(a1:Int):Option EN:=JR a0 (fun c b a=>some ((EN.mk a0 b a))) n 0 0 (IntKind.wrap IntKind.u64 ((IntKind.wrap IntKind.u64 (a1*7919))+(IntKind.wrap IntKind.u64 ((a0.length:Int)))))
theorem rG{e:List Int}{f:Int}{i:EN}{c:Value}(a:VE n e f=some i)(L:H<=w.heap.size)(j:Ad (AG .u8) w H e c):
 Calls prog 5 [c,.int .u64 f].toArray w (Dc fun y r=>∃p,y= .p p∧Ai r p [c,.i i.i_,.int .u64 i.h_] 55∧w.heap.size<=p∧AP w r):=by
 have s:=AP.refl w;unfold VE at a;refine AE func5 z ntmps5 (Rc 11 (Yl z (Ew z Kb (j.oj s)) (Yl z (EJ z lJ bR z) (Ro 1 (Yl z (Aj (uss:=[(0,[c]),(2,[.int .u64 (IntKind.wrap IntKind.u64 ((IntKind.wrap IntKind.u64 (f*7919))+(IntKind.wrap IntKind.u64 ((e.length:Int)))))])]) (out:=[c,.i 0,.int .u64 (IntKind.wrap IntKind.u64 ((IntKind.wrap IntKind.u64 (f*7919))+(IntKind.wrap IntKind.u64 ((e.length:Int)))))]) z z kM jS (BD (AD.cl (j.oj s)) (BD z z)) z) (Ef z (AO z z) ?_))))));rintro _ A ⟨t,rfl,M,N,u,B⟩;have O:=u.size;have⟨C,D,a⟩:=Zb a;refine Ro 10 (WC.loopD (fun g k wl=>∃l m o:Int,Kn 38 [(0,c),(5,.p t),(6,.i l)] k∧AP w wl∧A.heap.size<=wl.heap.size∧Ai wl t [c,.i m,.int .u64 o] 55∧JR e C g l m o=some i) n ?_ ?_)
 ·intro k h;exact⟨0,0,(IntKind.wrap IntKind.u64 ((IntKind.wrap IntKind.u64 (f*7919))+(IntKind.wrap IntKind.u64 ((e.length:Int))))),h.sub z,u,nr,B,a⟩
 ·rintro g k P ⟨l,m,o,h,q,Q,d,a⟩;refine Cb h ?_;rcases g with _|g;exact CX a;rw [JR.eq_2]at a;refine Rc 5 (Yl z (Ew z Kb (j.oj q)) (Ro 3 (Wc z a ?_ ?_)))
  ·intro a;have⟨E,F,a⟩:=AJ a;refine Rc 4 ?_;refine Cf 13 Tryz.hm fun R v b=>?_;have⟨x,S⟩:=Et q v;have d:=d.ext v;refine Dg b [0,1] (BL 2 b z (Ao z z) (BL 3 b z (Ba z MN) (BL 4 b z (DH z UH d z) (Dg b [5,6,7] (FJ 8 b z (GT z Kb Xu (j.oj x) F) ?_)))));rintro _ ⟨T,U,_,rfl,V,rfl,G⟩;refine BL 9 b z (Df 0 z ZI G z z) (BL 10 b z (EJ z XR bR z) (Dg b [11,12] (FG z (Yl z (Ao z z) (Yl z (Ba z MN) (Ef z (Bc z d ZV z z) ?_))))));rintro _ W ⟨I,J⟩;have⟨K,X⟩:=Eu x I;have d:=J;refine TL.noPan (l:=[]) (Re 8 ?_);intro k h;exact⟨g,nr,(wrap .i64 (l+1)),m,(IntKind.wrap IntKind.u64 ((IntKind.wrap IntKind.u64 ((IntKind.wrap IntKind.u64 (o*1099511628211))+(IntKind.wrap IntKind.u64 E)))+3)),h.sub z,K,(by omega),d,a⟩
  ·intro a;refine Rc 3 ?_
   subst D
   refine Re 9 ?_;cases BO a;exact Ne z z ⟨_,z,_,z,d,(by omega),q⟩
def VC(n:Nat)(a0:EN)(a1:Int):Option (Int×EN):=cond (decide (a0.i_<(a0.b_.length:Int))) ((AI a0.b_ a0.i_).bind fun a=>cond (a1==0) none (some (Int.tmod (wrap .i64 ((wrap .i64 (Nt .u64 (Nc .u64 (IntKind.wrap IntKind.u64 ((IntKind.wrap IntKind.u64 (a0.h_*6364136223846793005))+1442695040888963407)) 33) 16777215))+(wrap .i64 a))) a1,(EN.mk a0.b_ (wrap .i64 (a0.i_+1)) (IntKind.wrap IntKind.u64 ((IntKind.wrap IntKind.u64 (a0.h_*6364136223846793005))+1442695040888963407)))))) (cond (a1==0) none (some (Int.tmod (wrap .i64 (Nt .u64 (Nc .u64 (IntKind.wrap IntKind.u64 ((IntKind.wrap IntKind.u64 (a0.h_*6364136223846793005))+1442695040888963407)) 33) 16777215)) a1,(EN.mk a0.b_ a0.i_ (IntKind.wrap IntKind.u64 ((IntKind.wrap IntKind.u64 (a0.h_*6364136223846793005))+1442695040888963407))))))
theorem pL{e:EN}{i:Int}{f:Int×EN}{g:Value}{j h d:Nat}(b:VC n e i=some f)(a:Ai w d [g,.i e.i_,.int .u64 e.h_] 55)(c:AD (AG .u8) w (Iv j h) e.b_ g)(B:h<=w.heap.size)(C:d<j∨h<=d):
 Calls prog 9 [.p d,.i i].toArray w (Dc fun q k=>q= .i f.1∧Ai k d [g,.i f.2.i_,.int .u64 f.2.h_] 55∧Ag (pB d) w k):=by
 have r:Ag (pB d) w w:=Ag.refl _ w;have:=Ai.lt a;unfold VC at b;refine AE func9 z ntmps9 (Rc 9 (Yl z (Ao z z) (Fl MN UH a (Ro 2 (Yl z (Ao z z) (Yl z (Ba z MN) (Ef z (Bc z a ZV z z) ?_)))))));rintro _ D ⟨l,s⟩;have⟨t,E⟩:=Ov r l (Or.inl z);have c:=c.upd l (by omega);have a:=s;refine Ro 5 (Yl z (Ao z z) (Fl MN UH a (Yl z (Sz z z z (by decide)) (Yl z (Sf z z z) (Yl z (EJ z bR aV z) (Ro 5 (Bs Tryz.hm (Qr 1 (Qy z (Ao z z) (Fq Nq OQ a (Qr 1 (Qy z (Ao z z) (PG Sd Sh a Kb c ?_)))))))))))));refine Qr 1 ?_;refine QL.done fun F m=>?_;have⟨o,G⟩:=Br t m;have⟨a,c⟩:=Bx a c m;refine Re 1 (Wc z b ?_ ?_)
 ·intro b;refine Rc 1 (Bs Tryz.hm (Qr 2 (Qy z (Ao z z) (Fq Sd Sh a (Qr 1 (Qy z (Ao z z) (Fq Nq OQ a (Ng b c Kb Xu ZI ?_))))))));rintro I b _;refine Qy z (EJ z XR aV z) (Qr 2 ?_);refine QL.done fun J H=>?_;have⟨u,K⟩:=Br o H;have⟨a,c⟩:=Bx a c H;refine Re 4 (Yl z (Ao z z) (Fl Nq OQ a (Ro 1 (Yl z (Ao z z) (Yl z (Ba z Nq) (Ef z (Bc z a QG z z) ?_))))));rintro _ L ⟨p,v⟩;have⟨x,M⟩:=Ov u p (Or.inl z);have c:=c.upd p (by omega);have a:=v;have⟨y,b⟩:=Jb b;refine Ro 6 (Yl z (Gf z z z y) (Ro 4 ?_));cases BO b;exact Ne z z ⟨_,z,z,a,x⟩
 ·intro b;have⟨A,b⟩:=Jb b;refine Rc 6 (Yl z (Gf z z z A) (Ro 4 ?_));cases BO b;exact Ne z z ⟨_,z,z,a,o⟩

theorem nA:Rd prog 5 (AG .u8) (eQ .u8):=Rd.int XR
theorem tN:Rd prog 22 (FQ (AG .u8)) (fun xs=>xs.length<=9223372036854775807∧∀x∈xs,(eQ .u8) x):=Rd.slice Kb (by kernel_rfl) rfl nA
end Go.Proofs.YthojemmmflaicaaGreatDoor
