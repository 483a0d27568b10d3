/- The proof engine: what a function of the model computes, said by a plain function; no condition. -/
import Derived.WalkKit
import Derived.WalkSpells
import Derived.WalkLawsBesides
import Derived.Deep.QuietTactic
import Derived.Deep.Slices
import Derived.StillTailTactics
import Derived.OrdersHeld
import Derived.StillTail
import Derived.Carry
import Derived.ChangeSame
import Derived.Handed
import Derived.WideShapes
import Derived.ProofKit
import Derived.Laws.Cover3
import Derived.Laws.BytesString
import Derived.LaidLaws
import Derived.Stop.Joined
import Derived.Laws.StructEq
import Derived.KernelRfl
import Derived.RangeFuncFrom
import Derived.RangeFuncLeaves
import Derived.RangeFuncCalls
import Derived.OrdersIn
import Derived.TacticsInMore
import Derived.Lib.Overlaps
import Derived.Lib.AppendZerosOnto
import Derived.Laws.Externs
set_option linter.all false
namespace Go.Eng
open Go Go.RowKit
/-! ## Frames: what is known of the slots -/
abbrev KL:=List (Nat×Value)
def kl:KL->Nat->Option Value
 |[],_=>none
 |(s,v)::K,t=>bif Nat.beq s t then some v else kl K t
structure Kn(N:Nat)(K:KL)(a:Act):Prop where
 df:a.defers=[]
 sz:N<=a.tmps.size
 get:∀t v,kl K t=some v->a.tmps[t]? =some v
def Bm(K:KL):Operand->Option Value
 | .tmp t=>kl K t
 | .const v=>some v
 | .func f=>some (.func (.func f) #[] #[])
 |_=>none
theorem Kn.ev{N K a x v}(h:Kn N K a)(hx:Bm K x=some v):a.eval x=v:=by
 cases x with
 |tmp t=>have:=h.get t v hx;simp [Act.eval,Array.getD_eq_getD_getElem?,this]
 |const c=>simpa [Act.eval,Bm] using hx
 |func f=>simpa [Act.eval,Bm] using hx
 |global g=>simp [Bm]at hx
def BC(K:KL):Option Tmp->Value->KL
 |some d,v=>(d,v)::K
 |none,_=>K
theorem Kn.put{N K a v}{d:Option Tmp}(h:Kn N K a)(hd:∀t,d=some t->Nat.blt t N=true):Kn N (BC K d v) (a.put d v):=by
 cases d with
 |none=>exact h
 |some d=>
  have hdn:d<N:=by have:=hd d rfl;simpa [Nat.blt,Nat.succ_le_iff] using this
  refine⟨h.df,by simpa [Act.put] using h.sz,fun t u ht=>?_⟩
  have hsz:=h.sz
  simp only [BC,kl]at ht
  by_cases e:d=t
  ·subst e
   simp at ht
   subst ht
   have hlt:d<a.tmps.size:=Nat.lt_of_lt_of_le hdn hsz
   simp [Act.put,hlt]
  ·have hb:Nat.beq d t=false:=by cases hq:Nat.beq d t with
   |false=>rfl
   |true=>exact absurd (Nat.eq_of_beq_eq_true hq) e
   rw [hb]at ht
   have:=h.get t u (by simpa using ht)
   simp [Act.put,Array.getElem?_setIfInBounds,e,this]
def aQ:KL->KL->Prop
 |[],_=>True
 |(t,v)::K',K=>kl K t=some v∧aQ K' K
theorem Kn.weaken{N K K' a}(h:Kn N K a)(hk:aQ K' K):Kn N K' a:=by
 refine⟨h.df,h.sz,fun t v ht=>h.get t v ?_⟩
 induction K' with
 |nil=>simp [kl]at ht
 |cons p K' ih=>
  obtain⟨s,u⟩:=p
  obtain⟨h1,h2⟩:=hk
  simp only [kl]at ht
  by_cases e:s=t
  ·subst e;simp at ht;subst ht;exact h1
  ·have hb:Nat.beq s t=false:=by cases hq:Nat.beq s t with
   |false=>rfl
   |true=>exact absurd (Nat.eq_of_beq_eq_true hq) e
   rw [hb]at ht
   exact ih h2 (by simpa using ht)
/-! ## Worlds -/
abbrev AJ(w w':World):Prop:=Below w.heap.size w w'
theorem AJ.refl(w:World):AJ w w:=Below.refl _ _
theorem AJ.trans{a b c:World}(h:AJ a b)(k:AJ b c):AJ a c:=Below.trans h (k.mono h.size)
theorem AJ.drew(w:World):AJ w w.drew:=(Below.refl _ _).drew
theorem AJ.alloc(w:World)(o:Obj):AJ w (w.alloc o):=(Below.refl _ _).alloc (Nat.le_refl _) o
/-! ## Text order -/
section
variable {P:Program} {N:Nat}
def TL(P:Program)(N:Nat)(ops:Array Oper)(Q:Exit->Act->World->Prop)(l:List Oper)(K:KL)(w:World):Prop:=
 ∀a,Kn N K a->wpList P ops Q l a w
def WC(P:Program)(N:Nat)(c:Code)(Q:Exit->Act->World->Prop)(K:KL)(w:World):Prop:=
 ∀a,Kn N K a->c.wp P Q a w
def Df(P:Program)(N:Nat)(K:KL)(o:Oper)(w:World)(v:Value):Prop:=
 ∀a,Kn N K a->∀w',AJ w w'->(execOp a.eval o).run P w'= .ok (.value v) w'
def Fx(P:Program)(N:Nat)(K:KL)(o:Oper)(w:World)(R:Value->World->Prop):Prop:=
 ∀a,Kn N K a->∀(Kt:Act->World->Prop) Q,(∀v w',R v w'->Kt (a.put o.dst v) w')->o.wp P a w Kt Q
def Bw(N:Nat):Option Tmp->Bool
 |none=>true
 |some d=>Nat.blt d N
theorem Bw.h{N:Nat}{d:Option Tmp}(h:Bw N d=true):∀t,d=some t->Nat.blt t N=true:=by
 intro t e;subst e;exact h
theorem Df.eff{K o w v}(h:Df P N K o w v):Fx P N K o w (fun u w'=>u=v∧w'=w):=by
 intro a hK Kt Q hk
 unfold Oper.wp
 rw [h a hK w (AJ.refl w)]
 exact hk v w ⟨rfl,rfl⟩
theorem TL.yld{ops Q o rest K w v}(hg:o.guard=none)(hd:Bw N o.dst=true)(h:Df P N K o w v)
 (k:TL P N ops Q rest (BC K o.dst v) w):TL P N ops Q (o::rest) K w:=by
 intro a hK
 refine wpList_plain hg fun Kt hKt=>?_
 exact h.eff a hK Kt Q fun u w' ⟨e1,e2⟩=>by subst e1 e2;exact hKt _ _ (k _ (hK.put (Bw.h hd)))
theorem TL.eff{ops Q o rest K w R}(hg:o.guard=none)(hd:Bw N o.dst=true)(h:Fx P N K o w R)
 (k:∀v w',R v w'->TL P N ops Q rest (BC K o.dst v) w'):TL P N ops Q (o::rest) K w:=by
 intro a hK
 refine wpList_plain hg fun Kt hKt=>?_
 exact h a hK Kt Q fun u w' hR=>hKt _ _ (k u w' hR _ (hK.put (Bw.h hd)))
theorem TL.nil{ops Q K w}(h:∀a,Kn N K a->Q .normal a w):TL P N ops Q [] K w:=fun a hK=>h a hK
/-! ## Operations -/
section ops
variable {K:KL} {o:Oper} {w:World}
theorem JJ{x v}(ho:o.op= .move x)(hx:Bm K x=some v):Df P N K o w v:=by
 intro a hK w' _
 simp [execOp,ho,hK.ev hx]
theorem TB{x v}(ho:o.op= .assign x)(hx:Bm K x=some v):Df P N K o w v:=by
 intro a hK w' _
 simp [execOp,ho,hK.ev hx]
theorem dZ{t x y u k m n}(ho:o.op= .binOp .add t x y u)(hx:Bm K x=some (.int k m))(hy:Bm K y=some (.int k n)):Df P N K o w (.int k (k.wrap (m+n))):=by
 intro a hK w' _
 simp [execOp,ho,hK.ev hx,hK.ev hy,eqGuard,binOp,Op.intArith]
theorem cB{t x y u k m n}(ho:o.op= .binOp .sub t x y u)(hx:Bm K x=some (.int k m))(hy:Bm K y=some (.int k n)):Df P N K o w (.int k (k.wrap (m-n))):=by
 intro a hK w' _
 simp [execOp,ho,hK.ev hx,hK.ev hy,eqGuard,binOp,Op.intArith]
theorem dG{t x y u k m n}(ho:o.op= .binOp .mul t x y u)(hx:Bm K x=some (.int k m))(hy:Bm K y=some (.int k n)):Df P N K o w (.int k (k.wrap (m*n))):=by
 intro a hK w' _
 simp [execOp,ho,hK.ev hx,hK.ev hy,eqGuard,binOp,Op.intArith]
theorem PY{t x y u k m n}(ho:o.op= .binOp .quo t x y u)(hx:Bm K x=some (.int k m))(hy:Bm K y=some (.int k n))(h0:n≠0):Df P N K o w (.int k (k.wrap (m.tdiv n))):=by
 intro a hK w' _
 simp [execOp,ho,hK.ev hx,hK.ev hy,eqGuard,binOp,Op.intDiv,h0]
theorem Pc{t x y u k m n}(ho:o.op= .binOp .rem t x y u)(hx:Bm K x=some (.int k m))(hy:Bm K y=some (.int k n))(h0:n≠0):Df P N K o w (.int k (m.tmod n)):=by
 intro a hK w' _
 simp [execOp,ho,hK.ev hx,hK.ev hy,eqGuard,binOp,Op.intDiv,h0]
theorem eK{t x y u k m n}(ho:o.op= .binOp .lss t x y u)(hx:Bm K x=some (.int k m))(hy:Bm K y=some (.int k n)):Df P N K o w (.bool (decide (m<n))):=by
 intro a hK w' _
 simp [execOp,ho,hK.ev hx,hK.ev hy,eqGuard,binOp,Op.intCmp]
theorem bC{t x y u k m n}(ho:o.op= .binOp .leq t x y u)(hx:Bm K x=some (.int k m))(hy:Bm K y=some (.int k n)):Df P N K o w (.bool (decide (m<=n))):=by
 intro a hK w' _
 simp [execOp,ho,hK.ev hx,hK.ev hy,eqGuard,binOp,Op.intCmp]
theorem cX{t x y u k m n}(ho:o.op= .binOp .gtr t x y u)(hx:Bm K x=some (.int k m))(hy:Bm K y=some (.int k n)):Df P N K o w (.bool (decide (m>n))):=by
 intro a hK w' _
 simp [execOp,ho,hK.ev hx,hK.ev hy,eqGuard,binOp,Op.intCmp]
theorem dU{t x y u k m n}(ho:o.op= .binOp .geq t x y u)(hx:Bm K x=some (.int k m))(hy:Bm K y=some (.int k n)):Df P N K o w (.bool (decide (m>=n))):=by
 intro a hK w' _
 simp [execOp,ho,hK.ev hx,hK.ev hy,eqGuard,binOp,Op.intCmp]
theorem bU{t x y u k m n}(ho:o.op= .binOp .eql t x y u)(hx:Bm K x=some (.int k m))(hy:Bm K y=some (.int k n)):Df P N K o w (.bool (m==n)):=by
 intro a hK w' _
 simp [execOp,ho,hK.ev hx,hK.ev hy,eqGuard,binOp,Op.intCmp]
theorem bF{t x y u k m n}(ho:o.op= .binOp .neq t x y u)(hx:Bm K x=some (.int k m))(hy:Bm K y=some (.int k n)):Df P N K o w (.bool (m !=n)):=by
 intro a hK w' _
 simp [execOp,ho,hK.ev hx,hK.ev hy,eqGuard,binOp,Op.intCmp]
theorem Ru{t m n}{w:World}(ht:P.underlying t=some .bool):(Op.equal t (.bool m) (.bool n)).run P w= .ok (m==n) w:=by
 simp only [Op.equal,Op.maxDepth]
 rw [show(10000:Nat)=9999+1 from rfl,Op.equalIn]
 simp [run_underlying ht]
theorem Mw{t x y u m n}(ho:o.op= .binOp .neq t x y u)(ht:P.underlying t=some .bool)(hx:Bm K x=some (.bool m))(hy:Bm K y=some (.bool n)):Df P N K o w (.bool (m !=n)):=by
 intro a hK w' _
 simp [execOp,ho,hK.ev hx,hK.ev hy,eqGuard,binOp,Ru ht,bne]
theorem dA{t x y u m n}(ho:o.op= .binOp .eql t x y u)(hx:Bm K x=some (.string m))(hy:Bm K y=some (.string n)):Df P N K o w (.bool (m.toList==n.toList)):=by
 intro a hK w' _
 simp [execOp,ho,hK.ev hx,hK.ev hy,eqGuard,binOp,Op.stringOp]
theorem eL{t x y u m n}(ho:o.op= .binOp .neq t x y u)(hx:Bm K x=some (.string m))(hy:Bm K y=some (.string n)):Df P N K o w (.bool (m.toList !=n.toList)):=by
 intro a hK w' _
 simp [execOp,ho,hK.ev hx,hK.ev hy,eqGuard,binOp,Op.stringOp,bne]
theorem aZ{t x b}(ho:o.op= .unOp .not t x)(hx:Bm K x=some (.bool b)):Df P N K o w (.bool (!b)):=by
 intro a hK w' _
 simp [execOp,ho,hK.ev hx,Op.unary]
theorem bA{t x k m}(ho:o.op= .unOp .neg t x)(hx:Bm K x=some (.int k m)):Df P N K o w (.int k (k.wrap (0-m))):=by
 intro a hK w' _
 simp [execOp,ho,hK.ev hx,Op.unary,Op.intArith]
theorem Sq{c x y b u}(ho:o.op= .pick c x y)(hc:Bm K c=some (.bool b))(hb:b=true)(hx:Bm K x=some u):Df P N K o w u:=by
 intro a hK w' _
 subst hb
 simp [execOp,ho,hK.ev hc,hK.ev hx,asBool]
theorem SH{c x y b u}(ho:o.op= .pick c x y)(hc:Bm K c=some (.bool b))(hb:b=false)(hx:Bm K y=some u):Df P N K o w u:=by
 intro a hK w' _
 subst hb
 simp [execOp,ho,hK.ev hc,hK.ev hx,asBool]
theorem Ph{t x base n c e}(ho:o.op= .call { callee:=.builtin .len,args:=#[x],argTypes:=#[t] })(ht:P.underlying t=some (.slice e))(hx:Bm K x=some (.slice base n c)):Df P N K o w (.int .i64 n):=by
 intro a hK w' _
 simp [execOp,ho,resolve,invoke,builtin,hK.ev hx,Builtin.len_,run_underlying ht,goInt]
theorem Ep{t x s}(ho:o.op= .call { callee:=.builtin .len,args:=#[x],argTypes:=#[t] })(ht:P.underlying t=some .string)(hx:Bm K x=some (.string s)):Df P N K o w (.int .i64 s.size):=by
 intro a hK w' _
 simp [execOp,ho,resolve,invoke,builtin,hK.ev hx,run_len_string,ht,goInt]
theorem DD{x i vs u}(ho:o.op= .extract x i)(hx:Bm K x=some (.tuple vs))(hi:vs[i]? =some u):Df P N K o w u:=by
 intro a hK w' _
 simp [execOp,ho,hK.ev hx,Instr.extract,hi]
theorem Ff{ts x y k m n}(ho:o.op= .call { callee:=.builtin .min,args:=#[x,y],argTypes:=ts })(hx:Bm K x=some (.int k m))(hy:Bm K y=some (.int k n)):Df P N K o w (.int k (min m n)):=by
 intro a hK w' _
 simp [execOp,ho,resolve,invoke,builtin,hK.ev hx,hK.ev hy,run_min_int2]
 split<;>omega
theorem GI{ts x y k m n}(ho:o.op= .call { callee:=.builtin .max,args:=#[x,y],argTypes:=ts })(hx:Bm K x=some (.int k m))(hy:Bm K y=some (.int k n)):Df P N K o w (.int k (max m n)):=by
 intro a hK w' _
 simp [execOp,ho,resolve,invoke,builtin,hK.ev hx,hK.ev hy,run_max_int2]
 split<;>omega
theorem Hb{s t x k j m}(ho:o.op= .convert s t x)(hs:P.underlying s=some (.int j))(ht:P.underlying t=some (.int k))(hx:Bm K x=some (.int j m)):Df P N K o w (.int k (k.wrap m)):=by
 intro a hK w' _
 simp [execOp,ho,hK.ev hx,convert,run_underlying hs,run_underlying ht,Conv.intToInt]
end ops
end
end Go.Eng
namespace Go.Eng
open Go Go.RowKit
section
variable {P:Program} {N:Nat}
/-! ## Memory -/
theorem EW{w w':World}{b off:Nat}(e:w'.heap[b]? =w.heap[b]?):w'.frozen? ⟨b,off,none⟩=w.frozen? ⟨b,off,none⟩:=by simp only [World.frozen?,e]
def AM(w:World)(b off:Nat)(us:List Value):Prop:=∀j u,us[j]? =some u->w.cell? ⟨b,off+j,none⟩=some u∧w.frozen? ⟨b,off+j,none⟩=false
theorem AM.block{w w':World}{b off us}(h:AM w b off us)(e:w'.heap[b]? =w.heap[b]?):AM w' b off us:=
 fun j u hu=>⟨by rw [World.cell?_of_block (w:=w) e];exact(h j u hu).1,by rw [EW e];exact(h j u hu).2⟩
theorem AM.below{w w':World}{B b off us}(h:AM w b off us)(hb:Below B w w')(hlt:b<B):AM w' b off us:=
 h.block (hb.block b hlt)
theorem AM.ext{w w':World}{b off us}(h:AM w b off us)(he:AJ w w'):AM w' b off us:=
 fun j u hu=>h.block (he.block b (World.block_lt_of_cell? _ _ (h j u hu).1)) j u hu
def BK(w:World)(b:Nat)(us:List Value)(t:TypeId):Prop:=w.heap[b]? =some (.cells us.toArray t (0,0))
theorem BK.lt{w:World}{b us t}(h:BK w b us t):b<w.heap.size:=(Array.getElem?_eq_some_iff.1 h).1
theorem BK.cells{w:World}{b us t}(h:BK w b us t):AM w b 0 us:=fun j u hu=>by
 refine⟨?_,by unfold BK at h;simp [World.frozen?,h]⟩
 rw [Nat.zero_add,cell_of_row w b j _ t _ h];simpa using hu
theorem BK.ext{w w':World}{b us t}(h:BK w b us t)(he:AJ w w'):BK w' b us t:=by
 unfold BK;rw [he.block b h.lt];exact h
structure Gi(b:Nat)(w w':World):Prop where
 os:w'.os=w.os
 tape:w'.tape=w.tape
 output:w'.output=w.output
 size:w'.heap.size=w.heap.size
 block:∀k,k≠b->w'.heap[k]? =w.heap[k]?
theorem Gi.below{b B:Nat}{w w':World}(h:Gi b w w')(hB:B<=b):Below B w w':=
 ⟨h.os,h.tape,h.output,by rw [h.size];exact Nat.le_refl _,fun k hk=>h.block k (by omega)⟩
theorem BK.upd{w w':World}{b c us t}(h:BK w b us t)(he:Gi c w w')(hne:b≠c):BK w' b us t:=by
 unfold BK;rw [he.block b hne];exact h
theorem AM.upd{w w':World}{b c off us}(h:AM w b off us)(he:Gi c w w')(hne:b≠c):AM w' b off us:=
 h.block (he.block b hne)
theorem Gi.setRow(w:World)(b:Nat)(cs:Array Value):Gi b w (w.setRow b cs):=
 ⟨rfl,rfl,rfl,by simp,fun k hk=>setRow_other w b k cs hk⟩
def AK(P:Program)(t f:Nat):Option Nat:=
 match P.underlying t with
 |some (.struct fs)=>match fs[f]? with
  |some fd=>match P.info? fd.type with
   |some i=>if i.size=0 then none else some fd.offset
   |none=>none
  |none=>none
 |_=>none
def Bf(P:Program)(t:Nat):Option Bool:=
 match P.underlying t with
 |some (.struct _)|some (.array _ _)=>some true
 |some _=>some false
 |none=>none
def Am(P:Program)(t:Nat):Option Nat:=(P.info? t).map (·.size)
def DM(P:Program)(t:Nat):Option (List Value):=(P.info? t).bind fun i=>i.zero.map (·.cells.toList)
theorem CA(b off n:Nat):(⟨b,off,none⟩:Addr).add n=⟨b,off+n,none⟩:=by
 unfold Addr.add;split<;>simp_all
section
variable {K:KL} {o:Oper} {w:World}
theorem OT{t x f b off fo}(ho:o.op= .fieldAddr t x f)(hf:AK P t f=some fo)(hx:Bm K x=some (.pointer (some ⟨b,off,none⟩))):
 Df P N K o w (.pointer (some ⟨b,off+fo,none⟩)):=by
 intro a hK w' _
 unfold AK at hf
 split at hf
 ·rename_i fs hu
  split at hf
  ·rename_i fd hfd
   split at hf
   ·rename_i i hi
    split at hf
    ·cases hf
    ·rename_i hs
     injection hf with hf
     simp [execOp,ho,hK.ev hx,Instr.fieldAt,run_underlying hu,hfd,Instr.sureAddr,fieldPlace,sizeOf,typeInfo,hi,hs,CA,hf]
   ·cases hf
  ·cases hf
 ·cases hf
theorem Jv{t b}(h:Bf P t=some b)(w:World):(isAgg t).run P w= .ok b w:=by
 unfold Bf at h
 unfold isAgg
 split at h
 ·rename_i hu;injection h with h;subst h;simp [run_underlying hu]
 ·rename_i hu;injection h with h;subst h;simp [run_underlying hu]
 ·rename_i d h1 h2 hu;injection h with h;subst h
  rw [Sem.run_bind,run_underlying hu]
  cases d<;>first|rfl|exact absurd rfl (h1 _)|exact absurd rfl (h2 _ _)
 ·cases h
theorem PF{t x b o0 off us u}(j:Nat)(ho:o.op= .load t x)(ha:Bf P t=some false)(hx:Bm K x=some (.pointer (some ⟨b,off,none⟩)))(hcs:AM w b o0 us)(hj:off=o0+j)(hu:us[j]? =some u):Df P N K o w u:=by
 have hc:w.cell? ⟨b,off,none⟩=some u:=by rw [hj];exact(hcs j u hu).1
 intro a hK w' he
 have hc':w'.cell? ⟨b,off,none⟩=some u:=by rw [he.cell (World.block_lt_of_cell? _ _ hc)];exact hc
 simp [execOp,ho,hK.ev hx,Instr.loadAt,Instr.sureAddr,loadVar,Sem.run_bind,Jv ha,hc']
theorem AM.sub{w:World}{b off:Nat}{us:List Value}(h:AM w b off us)(i n:Nat):AM w b (off+i) ((us.drop i).take n):=fun j u hu=>by
 rw [List.getElem?_take]at hu
 split at hu
 ·rw [List.getElem?_drop]at hu;rw [Nat.add_assoc];exact h (i+j) u hu
 ·cases hu
theorem PD{t x b off us}(ho:o.op= .load t x)(ha:Bf P t=some true)(hx:Bm K x=some (.pointer (some ⟨b,off,none⟩)))(hc:AM w b off us)(hn:Am P t=some us.length):
 Df P N K o w (.agg us.toArray):=by
 intro a hK w' he
 have hc':=hc.ext he
 obtain⟨i,hi,hs⟩:=Option.map_eq_some_iff.1 hn
 have hl:(loadCells ⟨b,off,none⟩ us.length).run P w'= .ok us.toArray w':=
  run_loadCells_list (P:=P) w' ⟨b,off,none⟩ us (fun j v hv=>by rw [CA];exact(hc' j v hv).1)
 simp [execOp,ho,hK.ev hx,Instr.loadAt,Instr.sureAddr,loadVar,Sem.run_bind,Jv ha,sizeOf,typeInfo,hi,hs,hl]
theorem Om{t x y b off v cur e}(ho:o.op= .store t x y)(hx:Bm K x=some (.pointer (some ⟨b,off,none⟩)))(hy:Bm K y=some v)(hb:BK w b cur e)(hn:Am P t=some v.cells.toList.length)
 (h1:v.cells.toList.all Value.oneCell'=true) (hfit:Nat.ble (off+v.cells.toList.length) cur.length=true):
 Fx P N K o w (fun _ w'=>Gi b w w'∧BK w' b (cur.take off++v.cells.toList++cur.drop (off+v.cells.toList.length)) e):=by
 intro a hK Kt Q hk
 obtain⟨i,hi,hs⟩:=Option.map_eq_some_iff.1 hn
 have hfit:=Nat.le_of_ble_eq_true hfit
 have hst:=run_storeCells_at P b off e v.cells.toList 0 cur.toArray w hb (by simpa using hfit) (List.all_eq_true.1 h1)
 simp only [Nat.add_zero]at hst
 unfold Oper.wp
 have hr:(execOp a.eval o).run P w= .ok .skip (w.setRow b (cur.take off++v.cells.toList++cur.drop (off+v.cells.toList.length)).toArray):=by
  simp [execOp,ho,hK.ev hx,hK.ev hy,Instr.storeAt,Instr.sureAddr,storeVar,Sem.run_bind,sizeOf,typeInfo,hi,hs]at hst ⊢
  rw [hst]
  simp
 rw [hr]
 exact hk _ _ ⟨Gi.setRow _ _ _,by unfold BK;exact setRow_heap w b _ _ e _ hb⟩
def ME(w w':World)(b:Nat)(us:List Value)(t:TypeId):Prop:=b=w.heap.size∧w'.heap.size=w.heap.size+1∧AJ w w'∧BK w' b us t
theorem ME.of(w:World)(us:List Value)(t:TypeId):ME w (w.alloc (.cells us.toArray t)) w.heap.size us t:=
 ⟨rfl,by simp,AJ.alloc _ _,heap_alloc_new w _⟩
theorem AY{t zs}(ho:o.op= .alloc t)(hz:DM P t=some zs):
 Fx P N K o w (fun v w'=>∃b,v= .pointer (some ⟨b,0,none⟩)∧ME w w' b zs t):=by
 intro a hK Kt Q hk
 unfold DM at hz
 obtain⟨i,hi,hz2⟩:=Option.bind_eq_some_iff.1 hz
 obtain⟨z,hz3,hz4⟩:=Option.map_eq_some_iff.1 hz2
 have hr:(execOp a.eval o).run P w= .ok (.value (.pointer (some ⟨w.heap.size,0,none⟩))) (w.alloc (.cells zs.toArray t)):=by
  subst hz4
  simp [execOp,ho,Instr.alloc,zeroValue,typeInfo,hi,hz3,newVar,newRow,newObj];simp [Sem.run,Result.andThen]
 unfold Oper.wp
 rw [hr]
 exact hk _ _ ⟨_,rfl,ME.of w zs t⟩
theorem AF{t x v}(ho:o.op= .box t x)(hx:Bm K x=some v):
 Fx P N K o w (fun u w'=>∃b,u= .pointer (some ⟨b,0,none⟩)∧ME w w' b v.cells.toList t):=by
 intro a hK Kt Q hk
 have hr:(execOp a.eval o).run P w= .ok (.value (.pointer (some ⟨w.heap.size,0,none⟩))) (w.alloc (.cells v.cells.toList.toArray t)):=by
  simp [execOp,ho,hK.ev hx,Instr.box,newVar,newRow,newObj];simp [Sem.run,Result.andThen]
 unfold Oper.wp
 rw [hr]
 exact hk _ _ ⟨_,rfl,ME.of w _ t⟩
/-! ## Calls -/
def NC(K:KL):List Operand->Option (List Value)
 |[]=>some []
 |x::xs=>match Bm K x,NC K xs with|some v,some vs=>some (v::vs)|_,_=>none
theorem Kn.evs{K a}(h:Kn N K a):∀{xs vs},NC K xs=some vs->xs.map a.eval=vs
 |[],vs,e=>by simp [NC]at e;subst e;rfl
 |x::xs,vs,e=>by
  unfold NC at e
  split at e
  ·rename_i v vs' h1 h2
   injection e with e;subst e
   simp [h.ev h1,h.evs h2]
  ·cases e
def AZ(P:Program)(f:FuncId):Bool:=match P.funcs[f]? with|some fn=> !(fn.name== "runtime.NumGoroutine")&&fn.body.isSome|none=>false
theorem NQ{f}(h:AZ P f=true)(args:Array Value)(w:World):(callFunc f args).run P w= .ok (.enter f args) w:=by
 unfold AZ at h
 split at h
 ·rename_i fn hf
  simp only [Bool.and_eq_true,Bool.not_eq_true']at h
  have hb:fn.body.isNone=false:=by cases hq:fn.body<;>simp_all
  have hb2:¬fn.body=none:=by intro e;simp [e]at hb
  have h1:¬fn.name= "runtime.NumGoroutine" :=by intro e;simp [e]at h
  simp [callFunc,hf,h1,hb2]
 ·cases h
def DA(R:Value->World->Prop):Ending->World->Prop:=fun e w'=>∃v,e= .returned v∧R v w'
theorem Yx{f args tys vs}{R:Value->World->Prop}(ho:o.op= .call { callee:=.value (.func f),args:=args,argTypes:=tys })(hf:AZ P f=true)
 (ha:NC K args.toList=some vs) (hc:Calls P f vs.toArray w (DA R)):Fx P N K o w R:=by
 intro a hK Kt Q hk
 have he:args.map a.eval=vs.toArray:=by
  have:=hK.evs ha
  apply Array.ext'
  simpa using this
 have hr:(execOp a.eval o).run P w= .ok (.enter f vs.toArray) w:=by
  simp [execOp,ho,resolve,Act.eval,Deferred.ofValue,invoke,he,NQ hf]
 unfold Oper.wp
 rw [hr]
 exact hc.mono fun e w' ⟨v,he,hR⟩=>by subst he;exact hk _ _ hR
end
/-! ## Code -/
section
variable {Q:Exit -> Act -> World -> Prop} {K:KL} {w:World}
theorem WC.seq{x y:Code}(h:WC P N x (Exit.then (fun a' w'=>y.wp P Q a' w') Q) K w):WC P N (.seq x y) Q K w:=fun a hK=>wp_seq (h a hK)
theorem WC.region{id:Nat}{l:List Oper}(h:TL P N l.toArray Q l K w):WC P N (.region id l.toArray false) Q K w:=fun a hK=>wp_region_lit (h a hK)
theorem WC.block{id:Nat}{c:Code}(h:WC P N c (Exit.inBlock id Q) K w):WC P N (.block id c) Q K w:=fun a hK=>wp_block (h a hK)
theorem WC.skip(h:∀a,Kn N K a->Q .normal a w):WC P N .skip Q K w:=fun a hK=>wp_skip (h a hK)
theorem WC.exit{id:Nat}(h:∀a,Kn N K a->Q (.exit id) a w):WC P N (.exit id) Q K w:=fun a hK=>wp_exit (h a hK)
theorem WC.ret(h:∀a,Kn N K a->Q .ret a w):WC P N .ret Q K w:=fun a hK=>wp_ret (h a hK)
theorem WC.cond{c:Operand}{x y:Code}{t:Bool}(hc:Bm K c=some (.bool t))(ht:t=true->WC P N x Q K w)(hf:t=false->WC P N y Q K w):WC P N (.cond c x y) Q K w:=
 fun a hK=>wp_cond_split (hK.ev hc) (fun h=>ht h a hK) (fun h=>hf h a hK)
theorem WC.weaken{c:Code}{K'}(hk:aQ K' K)(h:WC P N c Q K' w):WC P N c Q K w:=fun a hK=>h a (hK.weaken hk)
theorem WC.loop{c:Code}(I:Nat->Act->World->Prop)(m:Nat)(h0:∀a,Kn N K a->I m a w)
 (round:∀m a w,I m a w->c.wp P (Exit.then (fun a' w'=>∃m',m'<m∧I m' a' w') Q) a w):WC P N (.loop c) Q K w:=by
 intro a hK
 classical
 have key:∀a w,(∃m,I m a w)->∃m,I m a w∧∀m',I m' a w->m<=m':=by
  intro a w ⟨m,hm⟩
  induction m using Nat.strongRecOn with
  |_ m ih=>
   by_cases h:∃m',m'<m∧I m' a w
   ·obtain⟨m',h1,h2⟩:=h;exact ih m' h1 h2
   ·exact⟨m,hm,fun m' hm'=>Nat.le_of_not_lt fun hlt=>h ⟨m',hlt,hm'⟩⟩
 let μ:Act->World->Nat:=fun a w=>if h:∃m,I m a w then Classical.choose (key a w h)else 0
 have hμ:∀a w,(h:∃m,I m a w)->I (μ a w) a w∧∀m',I m' a w->μ a w<=m':=by
  intro a w h
  simp only [μ,dif_pos h]
  exact Classical.choose_spec (key a w h)
 refine wp_loop (fun a w=>∃m,I m a w) μ ⟨m,h0 a hK⟩ fun a w hI=>?_
 obtain⟨h1,h2⟩:=hμ a w hI
 refine Code.wp_mono ?_ (round _ a w h1)
 intro e a' w' hq
 cases e with
 |normal=>
  obtain⟨m',hlt,hm'⟩:=hq
  exact⟨⟨m',hm'⟩,Nat.lt_of_le_of_lt ((hμ a' w' ⟨m',hm'⟩).2 m' hm') hlt⟩
 |_=>exact hq
end
/-! ## Functions -/
def OX:Nat->List Value->KL
 |_,[]=>[]
 |i,v::vs=>(i,v)::OX (i+1) vs
theorem Ok:∀(vs:List Value) (i t:Nat) (u:Value),kl (OX i vs) t=some u->i<=t∧vs[t-i]? =some u
 |[],_,_,_,h=>by simp [OX,kl]at h
 |v::vs,i,t,u,h=>by
  simp only [OX,kl]at h
  cases hq:Nat.beq i t with
  |true=>
   rw [hq]at h
   have:=Nat.eq_of_beq_eq_true hq
   subst this
   simpa using h
  |false=>
   rw [hq]at h
   obtain⟨h1,h2⟩:=Ok vs (i+1) t u (by simpa using h)
   refine⟨by omega,?_⟩
   rw [show t-i=(t-(i+1))+1 by omega]
   simpa using h2
theorem YB{f:FuncId}{fn:Func}{c:Code}{vs:List Value}{w:World}{R:Ending->World->Prop}
 (hf:P.funcs[f]? =some fn) (hb:fn.body=some c) (hn:fn.ntmps=N) (h:WC P N c (bodyPost P fn R) (OX 0 vs) w):Calls P f vs.toArray w R:=by
 refine calls_of_wp hf hb (h _ ⟨rfl,?_,?_⟩)
 ·simp [hn];omega
 ·intro t v ht
  obtain⟨_,h2⟩:=Ok vs 0 t v ht
  have hlt:t<vs.length:=by
   rcases Nat.lt_or_ge t vs.length with h|h
   ·exact h
   ·simp [h]at h2
  simp at h2
  rw [Array.getElem?_append_left (by simpa using hlt)]
  simpa using h2
def PC(P:Program)(K:KL)(w:World):List ResultVar->List Value->Prop
 |[],[]=>True
 | .tmp t::rs,v::vs=>kl K t=some v∧PC P K w rs vs
 | .cell p ty::rs,v::vs=>(∃b,kl K p=some (.pointer (some ⟨b,0,none⟩))∧(loadVar ty ⟨b,0,none⟩).run P w= .ok v w)∧PC P K w rs vs
 |_,_=>False
def FH:List Value->Value
 |[v]=>v
 |vs=>.tuple vs.toArray
def RH(a:Act):ResultVar->Sem Value
 | .tmp t=>pure (a.tmps.getD t undef)
 | .cell p t=>do loadVar t (←asAddr (a.tmps.getD p undef))
theorem FK{K a w}(h:Kn N K a):∀{rs vs},PC P K w rs vs->(rs.mapM (RH a)).run P w= .ok vs w
 |[],[],_=>by simp
 | .tmp t::rs,v::vs,⟨h1,h2⟩=>by
  have:=h.get t v h1
  have ih:=FK h h2
  simp [RH,Array.getD_eq_getD_getElem?,this,ih]
 | .cell p ty::rs,v::vs,⟨⟨b,h1,h3⟩,h2⟩=>by
  have:=h.get p _ h1
  have ih:=FK h h2
  simp [RH,Array.getD_eq_getD_getElem?,this,asAddr,h3,ih]
theorem Zo{fn:Func}{rs vs K w R}(hr:fn.results=rs.toArray)(ho:PC P K w rs vs)(hR:R (.returned (FH vs)) w):∀a,Kn N K a->bodyPost P fn R .ret a w:=by
 intro a hK
 refine bodyPost_ret (v:=FH vs) ?_ hK.df hR
 have:=FK (P:=P) hK ho
 have hfun:∀f:ResultVar->Sem Value,(∀r,f r=RH a r)->(rs.mapM f).run P w= .ok vs w:=by
  intro f hf;rw [show f=RH a from funext hf];exact this
 unfold results
 rw [hr,List.mapM_toArray]
 simp only [Sem.run_bind,Sem.run_map]
 rw [hfun _ (by intro r;cases r<;>rfl)]
 simp only [Result.andThen_ok,Sem.run_pure]
 match vs,ho with
 |[],_=>rfl
 |[v],_=>rfl
 |v::v'::vs,_=>simp [FH]
end
end Go.Eng
namespace Go.Eng
open Go Go.RowKit
section
variable {P:Program} {N:Nat}
/-! ## Guards, cuts -/
def MQ(ops:Array Oper)(j:Nat):Option Tmp:=(ops[j]?).bind (·.dst)
theorem Kn.yielded{K a ops j t b}(h:Kn N K a)(hs:MQ ops j=some t)(hb:kl K t=some (.bool b)):yielded ops a.tmps j=some b:=by
 have:=h.get t _ hb
 unfold MQ at hs
 simp [Go.yielded,hs,this]
section
variable {ops:Array Oper} {Q:Exit -> Act -> World -> Prop} {o:Oper} {rest l:List Oper} {K:KL} {w:World}
theorem SQ{K a j t b want}(h:Kn N K a)(hg:o.guard=some (j,want))(hs:MQ ops j=some t)(hb:kl K t=some (.bool b))(hw:b=want):Region.wanted o (yielded ops a.tmps)=true:=by
 subst hw;simp [Region.wanted,hg,h.yielded hs hb]
theorem Uv{K a j t b want}(h:Kn N K a)(hg:o.guard=some (j,want))(hs:MQ ops j=some t)(hb:kl K t=some (.bool b))(hw:b= !want):Region.wanted o (yielded ops a.tmps)=false:=by
 subst hw;simp [Region.wanted,hg,h.yielded hs hb]
theorem OO{l1 l2:List Oper}:∀{a w},wpList P ops (Exit.then (fun a' w'=>wpList P ops Q l2 a' w') Q) l1 a w->wpList P ops Q (l1++l2) a w:=by
 induction l1 with
 |nil=>intro a w h;exact h
 |cons o l1 ih=>
  intro a w h
  unfold wpList at h
  show wpList P ops Q (o::(l1++l2)) a w
  unfold wpList
  split at h
  ·rename_i hw
   rw [if_pos hw]
   refine h.imp (fun h=>?_) (fun h=>h)
   unfold Oper.wp at*
   generalize (execOp a.eval o).run P w=r at*
   cases r with
   |ok n w'=>
    cases n<;>simp only [Oper.upon]at h ⊢ <;>
     first
      |exact ih h
      |exact Calls.mono h (fun e w'' he=>by cases e<;>first|exact ih he|exact he)
      |exact Rows.mono h (fun _ _ he=>ih he)
      |exact h
   |halt x w'=>cases x<;>simp only [Oper.upon]at h ⊢ <;>exact h
  ·rename_i hw
   rw [if_neg hw]
   exact ih h
theorem TL.cut(k:Nat)(K':KL)(R:World->Prop)(h1:TL P N ops (Exit.then (fun a' w'=>Kn N K' a'∧R w') Q) (l.take k) K w)(h2:∀w',R w'->TL P N ops Q (l.drop k) K' w'):TL P N ops Q l K w:=by
 intro a hK
 rw [←List.take_append_drop k l]
 refine OO ?_
 have:=h1 a hK
 revert this
 generalize l.take k=l1
 intro h
 have mono:∀(l1:List Oper) a w,wpList P ops (Exit.then (fun a' w'=>Kn N K' a'∧R w') Q) l1 a w->wpList P ops (Exit.then (fun a' w'=>wpList P ops Q (l.drop k) a' w') Q) l1 a w:=by
  intro l1
  induction l1 with
  |nil=>intro a w h;exact h2 w h.2 a h.1
  |cons o l1 ih=>
   intro a w h
   unfold wpList at h ⊢
   split at h
   ·rename_i hw
    rw [if_pos hw]
    refine h.imp (fun h=>?_) (fun h=>h)
    unfold Oper.wp at*
    generalize (execOp a.eval o).run P w=r at*
    cases r with
    |ok n w'=>
     cases n<;>simp only [Oper.upon]at h ⊢ <;>
      first
       |exact ih _ _ h
       |exact Calls.mono h (fun e w'' he=>by cases e<;>first|exact ih _ _ he|exact he)
       |exact Rows.mono h (fun _ _ he=>ih _ _ he)
       |exact h
    |halt x w'=>cases x<;>simp only [Oper.upon]at h ⊢ <;>exact h
   ·rename_i hw
    rw [if_neg hw]
    exact ih _ _ h
 exact mono l1 a w h
/-! ## Regions whose order is drawn, all of whose operations are quiet -/
def QL(P:Program)(N:Nat)(ops:Array Oper)(w:World)(Qa:Act->Prop)(l:List Oper)(K:KL):Prop:=
 ∀a,Kn N K a->wpQuiet P ops (fun w'=>AJ w w') Qa l a
def tR(P:Program)(N:Nat)(K:KL)(o:Oper)(w:World)(v:Value):Prop:=
 ∀a,Kn N K a->∀w',AJ w w'->o.quietAt P a (fun w'=>AJ w w') w' v
theorem Df.qui{v}(h:Df P N K o w v):tR P N K o w v:=by
 intro a hK w' he
 unfold Oper.quietAt
 rw [h a hK w' he]
 exact⟨rfl,rfl⟩
theorem Wv{f args tys vs v}(ho:o.op= .call { callee:=.value (.func f),args:=args,argTypes:=tys })(hf:AZ P f=true)
 (ha:NC K args.toList=some vs) (hc:∀w',AJ w w'->Calls P f vs.toArray w' (DA fun u w''=>u=v∧AJ w' w'')):tR P N K o w v:=by
 intro a hK w' hw
 have he:args.map a.eval=vs.toArray:=by
  have:=hK.evs ha
  apply Array.ext'
  simpa using this
 have hr:(execOp a.eval o).run P w'= .ok (.enter f vs.toArray) w':=by
  simp [execOp,ho,resolve,Act.eval,Deferred.ofValue,invoke,he,NQ hf]
 unfold Oper.quietAt
 rw [hr]
 exact⟨rfl,(hc w' hw).mono fun e w'' ⟨u,h1,h2,h3⟩=>by subst h1 h2;exact⟨rfl,hw.trans h3⟩⟩
variable {Qa:Act -> Prop}
theorem QL.nil(h:∀a,Kn N K a->Qa a):QL P N ops w Qa [] K:=fun a hK=>h a hK
theorem QL.yld{v}(hg:o.guard=none)(hd:Bw N o.dst=true)(h:tR P N K o w v)(k:QL P N ops w Qa rest (BC K o.dst v)):QL P N ops w Qa (o::rest) K:=by
 intro a hK
 unfold wpQuiet
 rw [if_pos (by simp [Region.wanted,hg])]
 exact⟨v,fun w' hw'=>h a hK w' hw',k _ (hK.put (Bw.h hd))⟩
theorem NM{C:World->Prop}{l1 l2:List Oper}:∀{a},wpQuiet P ops C (fun a'=>wpQuiet P ops C Qa l2 a') l1 a->wpQuiet P ops C Qa (l1++l2) a:=by
 induction l1 with
 |nil=>intro a h;exact h
 |cons o l1 ih=>
  intro a h
  unfold wpQuiet at h
  show wpQuiet P ops C Qa (o::(l1++l2)) a
  unfold wpQuiet
  split at h
  ·rename_i hw
   rw [if_pos hw]
   obtain⟨v,h1,h2⟩:=h
   exact⟨v,h1,ih h2⟩
  ·rename_i hw
   rw [if_neg hw]
   exact ih h
theorem Pf{C:World->Prop}{Qa Qb:Act->Prop}(hm:∀a,Qa a->Qb a):∀{l1:List Oper} {a},wpQuiet P ops C Qa l1 a->wpQuiet P ops C Qb l1 a:=by
 intro l1
 induction l1 with
 |nil=>intro a h;exact hm _ h
 |cons o l1 ih=>
  intro a h
  unfold wpQuiet at h ⊢
  split at h
  ·rename_i hw
   rw [if_pos hw]
   obtain⟨v,h1,h2⟩:=h
   exact⟨v,h1,ih h2⟩
  ·rename_i hw
   rw [if_neg hw]
   exact ih h
theorem QL.cut(k:Nat)(K':KL)(h1:QL P N ops w (fun a'=>Kn N K' a') (l.take k) K)(h2:QL P N ops w Qa (l.drop k) K'):QL P N ops w Qa l K:=by
 intro a hK
 rw [←List.take_append_drop k l]
 exact NM (Pf (fun a' h=>h2 a' h) (h1 a hK))
theorem WC.quiet{id:Nat}(hm:P.follows .mixedOrders=true)(hB:Region.lexB .any l.toArray=true)(h:QL P N l.toArray w (fun a'=>∀w',AJ w w'->Q .normal a' w') l K):WC P N (.region id l.toArray true) Q K w:=
 fun a hK=>wp_region_quiet (C:=fun w'=>AJ w w') hm hB (AJ.drew w) (by simpa using h a hK)
end
end
end Go.Eng
namespace Go.Eng
open Go Go.RowKit
/-! ## Data in memory -/
abbrev Iv(lo hi:Nat):Nat->Prop:=fun k=>lo<=k∧k<hi
structure Bp(α:Type) where
 n:Nat
 rep:World->(Nat->Prop)->α->List Value->Prop
 len:∀{w S x vs},rep w S x vs->vs.length=n
 one:∀{w S x vs},rep w S x vs->vs.all Value.oneCell'=true
 mono:∀{w w' S S' x vs},rep w S x vs->(∀k,S k->S' k)->(∀k,S k->w'.heap[k]? =w.heap[k]?)->rep w' S' x vs
def AL(k:IntKind):Bp Int where
 n:=1
 rep:=fun _ _ x vs=>vs=[.int k x]
 len:=fun h=>by rw [h];rfl
 one:=fun h=>by rw [h];rfl
 mono:=fun h _ _=>h
def BH:Bp Bool where
 n:=1
 rep:=fun _ _ x vs=>vs=[.bool x]
 len:=fun h=>by rw [h];rfl
 one:=fun h=>by rw [h];rfl
 mono:=fun h _ _=>h
def At:Bp ByteArray where
 n:=1
 rep:=fun _ _ x vs=>vs=[.string x]
 len:=fun h=>by rw [h];rfl
 one:=fun h=>by rw [h];rfl
 mono:=fun h _ _=>h
def Ai{α β:Type}(c:Bp α)(d:Bp β):Bp (α×β) where
 n:=c.n+d.n
 rep:=fun w S x vs=>∃us ts,vs=us++ts∧c.rep w S x.1 us∧d.rep w S x.2 ts
 len:=fun⟨us,ts,e,h1,h2⟩=>by rw [e,List.length_append,c.len h1,d.len h2]
 one:=fun⟨us,ts,e,h1,h2⟩=>by rw [e,List.all_append,c.one h1,d.one h2];rfl
 mono:=fun⟨us,ts,e,h1,h2⟩ a b=>⟨us,ts,e,c.mono h1 a b,d.mono h2 a b⟩
def Bn{α β:Type}(f:β->α)(c:Bp α):Bp β where
 n:=c.n
 rep:=fun w S x vs=>c.rep w S (f x) vs
 len:=fun h=>c.len h
 one:=fun h=>c.one h
 mono:=fun h a b=>c.mono h a b
def AD{α:Type}(c:Bp α)(w:World)(S:Nat->Prop)(xs:List α)(v:Value):Prop:=
 ∃a cap,v= .slice a xs.length cap∧(xs.length<=cap∧(a=none->cap=0))∧cap<=9223372036854775807∧
  (0<xs.length->∃b off,a=some ⟨b,off,none⟩∧S b∧∀i x,xs[i]? =some x->∃us,c.rep w S x us∧AM w b (off+i*c.n) us)
theorem AD.mono{α:Type}{c:Bp α}{w w':World}{S S':Nat->Prop}{xs:List α}{v:Value}(h:AD c w S xs v)(ha:∀k,S k->S' k)(hk:∀k,S k->w'.heap[k]? =w.heap[k]?):AD c w' S' xs v:=by
 obtain⟨a,cap,h1,h2,h3,h4⟩:=h
 refine⟨a,cap,h1,h2,h3,fun hl=>?_⟩
 obtain⟨b,off,h5,h6,h8⟩:=h4 hl
 refine⟨b,off,h5,ha b h6,fun i x hx=>?_⟩
 obtain⟨us,h9,h10⟩:=h8 i x hx
 exact⟨us,c.mono h9 ha hk,h10.block (hk b h6)⟩
def Ci{α:Type}(c:Bp α):Bp (List α) where
 n:=1
 rep:=fun w S xs vs=>∃v,vs=[v]∧AD c w S xs v
 len:=fun⟨v,e,_⟩=>by rw [e];rfl
 one:=fun⟨v,e,a,cap,h,_⟩=>by rw [e,h];rfl
 mono:=fun⟨v,e,h⟩ ha hk=>⟨v,e,h.mono ha hk⟩
theorem AD.old{α:Type}{c:Bp α}{w w':World}{B lo hi:Nat}{xs:List α}{v:Value}(h:AD c w (Iv lo hi) xs v)(hB:Below B w w')(hle:hi<=B):AD c w' (Iv lo hi) xs v:=
 h.mono (fun _ h=>h) (fun k h2=>hB.block k (by have:=h2.2;omega))
theorem AD.wide{α:Type}{c:Bp α}{w:World}{lo hi lo' hi':Nat}{xs:List α}{v:Value}(h:AD c w (Iv lo hi) xs v)(h1:lo'<=lo:=by omega)(h2:hi<=hi':=by omega):AD c w (Iv lo' hi') xs v:=
 h.mono (fun k h=>⟨by have:=h.1;omega,by have:=h.2;omega⟩) (fun _ _=>rfl)
theorem AD.upd{α:Type}{c:Bp α}{w w':World}{b lo hi:Nat}{xs:List α}{v:Value}(h:AD c w (Iv lo hi) xs v)(hu:Gi b w w')(hne:b<lo∨hi<=b):AD c w' (Iv lo hi) xs v:=
 h.mono (fun _ h=>h) (fun k h=>hu.block k (by have:=h.1;have:=h.2;omega))
theorem Bp.old{α:Type}(c:Bp α){w w':World}{B lo hi:Nat}{x:α}{vs:List Value}(h:c.rep w (Iv lo hi) x vs)(hB:Below B w w')(hle:hi<=B):c.rep w' (Iv lo hi) x vs:=
 c.mono h (fun _ h=>h) (fun k h2=>hB.block k (by have:=h2.2;omega))
theorem Bp.wide{α:Type}(c:Bp α){w:World}{lo hi lo' hi':Nat}{x:α}{vs:List Value}(h:c.rep w (Iv lo hi) x vs)(h1:lo'<=lo)(h2:hi<=hi'):c.rep w (Iv lo' hi') x vs:=
 c.mono h (fun k h=>⟨by have:=h.1;omega,by have:=h.2;omega⟩) (fun _ _=>rfl)
theorem AD.nil{α:Type}(c:Bp α)(w:World)(S:Nat->Prop):AD c w S [] (.slice none 0 0):=⟨none,0,rfl,⟨by simp,fun _=>rfl⟩,by simp,fun h=>by simp at h⟩
def AE{α:Type}(xs:List α)(i:Int):Option α:=if 0<=i then xs[i.toNat]? else none
theorem Fe{α:Type}{xs:List α}{i:Int}{x:α}(h:AE xs i=some x):0<=i∧i<xs.length∧xs[i.toNat]? =some x:=by
 unfold AE at h
 split at h
 ·rename_i h0
  obtain⟨h1,_⟩:=List.getElem?_eq_some_iff.1 h
  exact⟨h0,by omega,h⟩
 ·cases h
section
variable {P:Program} {N:Nat}
def YE(P:Program)(N:Nat)(K:KL)(o:Oper)(w:World)(Ψ:Value->Prop):Prop:=∃v,Df P N K o w v∧Ψ v
section
variable {ops:Array Oper} {Q:Exit -> Act -> World -> Prop} {o:Oper} {rest l:List Oper} {K:KL} {w:World} {Qa:Act -> Prop} {Ψ:Value -> Prop}
theorem FQ{t x i e b off n c k m sz}(ho:o.op= .indexAddr t x i)(hu:P.underlying t=some (.slice e))(hc:Am P e=some sz)(hx:Bm K x=some (.slice (some ⟨b,off,none⟩) n c))
 (hi:Bm K i=some (.int k m)) (h0:0<=m) (h1:m<n):Df P N K o w (.pointer (some ⟨b,off+m.toNat*sz,none⟩)):=by
 intro a hK w' _
 obtain⟨i,hi2,hs⟩:=Option.map_eq_some_iff.1 hc
 simp [execOp,ho,hK.ev hx,hK.ev hi,Instr.indexAt,asIntOf,run_underlying hu,h0,h1,sizeOf,typeInfo,hi2,hs,CA]
theorem WI{α:Type}{c:Bp α}{xs:List α}{y:α}{t x i e v k m S}(ho:o.op= .indexAddr t x i)(hu:P.underlying t=some (.slice e))(hc:Am P e=some c.n)(hx:Bm K x=some v)
 (hi2:Bm K i=some (.int k m)) (hs:AD c w S xs v) (hg:AE xs m=some y):
 YE P N K o w (fun u=>∃b off us,u= .pointer (some ⟨b,off,none⟩)∧S b∧c.rep w S y us∧AM w b off us):=by
 obtain⟨a,cap,rfl,h2,h3,h4⟩:=hs
 obtain⟨g0,g1,g2⟩:=Fe hg
 obtain⟨b,off,rfl,h5,h7⟩:=h4 (by omega)
 obtain⟨us,h8,h9⟩:=h7 _ _ g2
 exact⟨_,FQ ho hu hc hx hi2 g0 g1,b,_,us,rfl,h5,h8,h9⟩
theorem iG{α:Type}{c:Bp α}{xs:List α}{t x e v S}(ho:o.op= .call { callee:=.builtin .len,args:=#[x],argTypes:=#[t] })(hu:P.underlying t=some (.slice e))(hx:Bm K x=some v)(hs:AD c w S xs v):
 Df P N K o w (.int .i64 xs.length):=by
 obtain⟨a,cap,rfl,h2,h3,h4⟩:=hs
 exact Ph ho hu hx
end
section
variable {o:Oper} {K:KL} {w:World}
end
/-! ## What comes next -/
def NX(N:Nat)(Q:Exit->Act->World->Prop)(e:Exit)(K:KL)(w:World):Prop:=∀a,Kn N K a->Q e a w
section
variable {Q:Exit -> Act -> World -> Prop} {K:KL} {w:World} {f:Act -> World -> Prop} {ops:Array Oper}
theorem TL.done(h:NX N Q .normal K w):TL P N ops Q [] K w:=TL.nil h
theorem QL.done(h:∀w',AJ w w'->NX N Q .normal K w'):QL P N ops w (fun a'=>∀w',AJ w w'->Q .normal a' w') [] K:=QL.nil fun a hK w' he=>h w' he a hK
theorem WC.skip'(h:NX N Q .normal K w):WC P N .skip Q K w:=WC.skip h
theorem WC.exit'{id:Nat}(h:NX N Q (.exit id) K w):WC P N (.exit id) Q K w:=WC.exit h
theorem WC.ret'(h:NX N Q .ret K w):WC P N .ret Q K w:=WC.ret h
theorem NX.seq{y:Code}{Q':Exit->Act->World->Prop}(h:WC P N y Q' K w):NX N (Exit.then (fun a' w'=>y.wp P Q' a' w') Q) .normal K w:=h
theorem NX.then_n(h:∀a,Kn N K a->f a w):NX N (Exit.then f Q) .normal K w:=h
theorem NX.then_e{id:Nat}(h:NX N Q (.exit id) K w):NX N (Exit.then f Q) (.exit id) K w:=h
theorem NX.then_r(h:NX N Q .ret K w):NX N (Exit.then f Q) .ret K w:=h
theorem NX.blk_n{id:Nat}(h:NX N Q .normal K w):NX N (Exit.inBlock id Q) .normal K w:=h
theorem NX.blk_r{id:Nat}(h:NX N Q .ret K w):NX N (Exit.inBlock id Q) .ret K w:=h
theorem NX.blk_hit{id:Nat}(h:NX N Q .normal K w):NX N (Exit.inBlock id Q) (.exit id) K w:=fun a hK=>by
 show(if id=id then Q .normal a w else Q (.exit id) a w);rw [if_pos rfl];exact h a hK
theorem NX.blk_miss{id id':Nat}(hne:Nat.beq id' id=false)(h:NX N Q (.exit id') K w):NX N (Exit.inBlock id Q) (.exit id') K w:=fun a hK=>by
 have hn:¬id'=id:=fun e=>by subst e;simp at hne
 show(if id'=id then Q .normal a w else Q (.exit id') a w);rw [if_neg hn];exact h a hK
theorem NX.weaken{K'}{e:Exit}(hk:aQ K' K)(h:NX N Q e K' w):NX N Q e K w:=fun a hK=>h a (hK.weaken hk)
theorem NX.end{fn:Func}{rs vs R}(hr:fn.results=rs.toArray)(ho:PC P K w rs vs)(hR:R (.returned (FH vs)) w):NX N (bodyPost P fn R) .ret K w:=Zo hr ho hR
theorem Ey{b ty T}{us:List Value}(ha:Bf P ty=some true)(hn:Am P ty=some us.length)(hb:BK w b us T):(loadVar ty ⟨b,0,none⟩).run P w= .ok (.agg us.toArray) w:=by
 obtain⟨i,hi,hs⟩:=Option.map_eq_some_iff.1 hn
 have hl:(loadCells ⟨b,0,none⟩ us.length).run P w= .ok us.toArray w:=
  run_loadCells_list (P:=P) w ⟨b,0,none⟩ us (fun j v hv=>by rw [CA];exact(hb.cells j v hv).1)
 simp [loadVar,Sem.run_bind,Jv ha,sizeOf,typeInfo,hi,hs,hl]
end
end
theorem AD.one{α:Type}{c:Bp α}{w:World}{S:Nat->Prop}{xs:List α}{v:Value}(h:AD c w S xs v):v.oneCell'=true:=by
 obtain⟨a,cap,rfl,_⟩:=h;rfl
theorem AD.cells{α:Type}{c:Bp α}{w:World}{S:Nat->Prop}{xs:List α}{v:Value}(h:AD c w S xs v):v.cells= #[v]:=by
 obtain⟨a,cap,rfl,_⟩:=h;rfl
theorem Oj{α:Type}{b:Int}{a:Option α}{r:α}(h:(bif b==0 then none else a)=some r):b≠0∧a=some r:=by
 by_cases hb:b=0
 ·subst hb;cases h
 ·refine⟨hb,?_⟩
  have:(b==0)=false:=by simpa using hb
  rw [this]at h;exact h
theorem AH{α β:Type}{o:Option α}{f:α->Option β}{r:β}(h:Option.bind o f=some r):∃x,o=some x∧f x=some r:=by
 cases o with
 |none=>cases h
 |some x=>exact⟨x,rfl,h⟩
theorem OE{α:Type}{c:Bool}{a b:Option α}{r:α}(h:c=true)(hF:(bif c then a else b)=some r):a=some r:=by subst h;exact hF
theorem NL{α:Type}{c:Bool}{a b:Option α}{r:α}(h:c=false)(hF:(bif c then a else b)=some r):b=some r:=by subst h;exact hF
end Go.Eng
namespace Go.Eng
open Go Go.RowKit
class CM{α:Type}(c:Bp α):Prop where
 any:∀{w w' S S' x vs},c.rep w S x vs->c.rep w' S' x vs
instance (k:IntKind):CM (AL k):=⟨fun h=>h⟩
instance:CM BH:=⟨fun h=>h⟩
instance:CM At:=⟨fun h=>h⟩
instance {α β:Type}(c:Bp α)(d:Bp β)[CM c][CM d]:CM (Ai c d):=⟨fun⟨us,ts,e,h1,h2⟩=>⟨us,ts,e,CM.any h1,CM.any h2⟩⟩
instance {α β:Type}(f:β->α)(c:Bp α)[h:CM c]:CM (Bn f c):=⟨fun k=>h.any k⟩
def Ae(cs:List Value)(n i:Nat):List Value:=(cs.drop (i*n)).take n
theorem Av{cs:List Value}{n i j:Nat}(hj:j<n):(Ae cs n i)[j]? =cs[i*n+j]?:=by
 unfold Ae
 rw [List.getElem?_take,if_pos hj,List.getElem?_drop]
def AB{α:Type}(c:Bp α)(w:World)(B:Nat)(S:Nat->Prop)(e:TypeId)(xs:List α)(v:Value):Prop:=
 ∃cs,w.ownsRow B e c.n v xs.length cs∧∀i x,xs[i]? =some x->c.rep w S x (Ae cs c.n i)
section
variable {α:Type} {c:Bp α} {w w':World} {B:Nat} {S S':Nat -> Prop} {e:TypeId} {xs:List α} {v:Value}
theorem AB.blk(h:AB c w B S e xs v):∀g,v.ownBlock=some g->B<=g∧g<w.heap.size:=by
 obtain⟨cs,h1,_⟩:=h;exact h1.lt
theorem AB.one(h:AB c w B S e xs v):v.oneCell'=true:=by
 obtain⟨cs,⟨_,⟨rfl,_⟩|⟨g,cap,cur,rfl,_⟩⟩,_⟩:=h<;>rfl
theorem AB.cells(h:AB c w B S e xs v):v.cells= #[v]:=by
 obtain⟨cs,⟨_,⟨rfl,_⟩|⟨g,cap,cur,rfl,_⟩⟩,_⟩:=h<;>rfl
theorem AB.base(h:AB c w B S e xs v){B':Nat}(hB:B'<=B:=by omega):AB c w B' S e xs v:=by
 obtain⟨cs,⟨h1,h2⟩,h3⟩:=h
 refine⟨cs,⟨h1,?_⟩,h3⟩
 rcases h2 with h2|⟨g,cap,cur,hv,hb,rest⟩
 ·exact .inl h2
 ·exact .inr ⟨g,cap,cur,hv,by omega,rest⟩
theorem AB.nil(c:Bp α)(w:World)(B:Nat)(S:Nat->Prop)(e:TypeId):AB c w B S e [] (.slice none 0 0):=
 ⟨[],World.ownsRow_nil w B e c.n,fun i x h=>by simp at h⟩
theorem AB.keep(h:AB c w B S e xs v)(hg:∀g,v.ownBlock=some g->w'.heap[g]? =w.heap[g]?)(hS:∀k,S k->S' k)(hk:∀k,S k->w'.heap[k]? =w.heap[k]?):AB c w' B S' e xs v:=by
 obtain⟨cs,⟨h1,h2⟩,h3⟩:=h
 refine⟨cs,⟨h1,?_⟩,fun i x hx=>c.mono (h3 i x hx) hS hk⟩
 rcases h2 with h2|⟨g,cap,cur,rfl,hb,hh,rest⟩
 ·exact .inl h2
 ·exact .inr ⟨g,cap,cur,rfl,hb,(hg g rfl).trans hh,rest⟩
theorem AB.ext[CM c](h:AB c w B (Iv 0 0) e xs v)(he:AJ w w'):AB c w' B (Iv 0 0) e xs v:=
 h.keep (fun g hg=>he.block g (h.blk g hg).2) (fun _ h=>h) (fun k h=>absurd h.2 (Nat.not_lt_zero k))
theorem AB.upd[CM c]{b:Nat}(h:AB c w B (Iv 0 0) e xs v)(hu:Gi b w w')(hne:∀g,v.ownBlock=some g->g≠b):AB c w' B (Iv 0 0) e xs v:=
 h.keep (fun g hg=>hu.block g (hne g hg)) (fun _ h=>h) (fun k h=>absurd h.2 (Nat.not_lt_zero k))
theorem AB.sl(h:AB c w B S e xs v)(hS:∀k,S k->S' k)(hB:∀k,B<=k->k<w.heap.size->S' k):AD c w S' xs v:=by
 obtain⟨cs,h0,h3⟩:=h
 have h1:=h0
 obtain⟨hl,⟨rfl,hn⟩|⟨g,cap,cur,rfl,hb,hh,h5,h6,h7,h8⟩⟩:=h1
 ·have:xs=[]:=List.eq_nil_of_length_eq_zero hn
  subst this;exact AD.nil _ _ _
 ·have hlt:g<w.heap.size:=(Array.getElem?_eq_some_iff.1 hh).1
  refine⟨some ⟨g,0,none⟩,cap,rfl,⟨h5,fun h=>by cases h⟩,by simpa [maxLen] using h6,fun hpos=>⟨g,0,rfl,hB g hb hlt,fun i x hx=>⟨_,c.mono (h3 i x hx) hS (fun _ _=>rfl),fun j u hu=>?_⟩⟩⟩
  have hjn:j<c.n:=by
   have:=(List.getElem?_eq_some_iff.1 hu).1
   simp [Ae]at this;omega
  rw [Av hjn]at hu
  have:=h0.cells (g:=g) rfl _ _ hu
  rw [CA]at this
  rw [show 0+i*c.n+j=0+(i*c.n+j) by omega];exact⟨this,by simp [World.frozen?,hh]⟩
theorem AB.slf[CM c]{lo hi:Nat}(h:AB c w B (Iv 0 0) e xs v)(h1:lo<=B:=by omega)(h2:w.heap.size<=hi:=by omega):AD c w (Iv lo hi) xs v:=
 h.sl (fun k h=>absurd h.2 (Nat.not_lt_zero k)) (fun k h3 h4=>⟨by omega,by omega⟩)
end
theorem Ms{α:Type}{xs:List α}{i j:Nat}{y x:α}(h:(xs.set i y)[j]? =some x):(i=j∧x=y)∨(i≠j∧xs[j]? =some x):=by
 rw [List.getElem?_set]at h
 split at h
 ·rename_i e;subst e
  split at h
  ·injection h with h;exact .inl ⟨rfl,h.symm⟩
  ·cases h
 ·rename_i e;exact .inr ⟨e,h⟩
def HA(cs:List Value)(p:Nat)(us:List Value):List Value:=cs.take p++us++cs.drop (p+us.length)
theorem Kz{cs us:List Value}{p:Nat}(h:p+us.length<=cs.length):(HA cs p us).length=cs.length:=by
 simp [HA];omega
theorem GO{cs us:List Value}{p k:Nat}(h:p+us.length<=cs.length):(HA cs p us)[k]? =if p<=k∧k<p+us.length then us[k-p]? else cs[k]?:=by
 have hp:(cs.take p).length=p:=by simp;omega
 unfold HA
 by_cases h1:k<p
 ·rw [if_neg (by omega),List.append_assoc,List.getElem?_append_left (by omega),List.getElem?_take,if_pos h1]
 ·by_cases h2:k<p+us.length
  ·rw [if_pos (by omega),List.append_assoc,List.getElem?_append_right (by omega),hp,List.getElem?_append_left (by omega)]
  ·rw [if_neg (by omega),List.getElem?_append_right (by simp;omega),List.getElem?_drop]
   congr 1
   simp;omega
section
variable {P:Program} {N:Nat} {α:Type} {c:Bp α} {w:World} {B:Nat} {S:Nat -> Prop} {e:TypeId} {xs:List α} {v:Value} {o:Oper} {K:KL}
theorem RN{t x}(ho:o.op= .call { callee:=.builtin .len,args:=#[x],argTypes:=#[t] })(hu:P.underlying t=some (.slice e))(hx:Bm K x=some v)(hs:AB c w B S e xs v):
 Df P N K o w (.int .i64 xs.length):=by
 obtain⟨cs,⟨_,⟨rfl,hn⟩|⟨g,cap,cur,rfl,_⟩⟩,_⟩:=hs
 ·have:=Ph (N:=N) (w:=w) ho hu hx;rw [hn];exact this
 ·exact Ph ho hu hx
theorem LY{y:α}{t x i k m}(ho:o.op= .indexAddr t x i)(hu:P.underlying t=some (.slice e))(hc:Am P e=some c.n)(hx:Bm K x=some v)
 (hi2:Bm K i=some (.int k m)) (hs:AB c w B S e xs v) (hg:AE xs m=some y):
 YE P N K o w (fun u=>∃g us,u= .pointer (some ⟨g,0+m.toNat*c.n,none⟩)∧v.ownBlock=some g∧c.rep w S y us∧AM w g (0+m.toNat*c.n) us):=by
 obtain⟨cs,h0,h3⟩:=hs
 obtain⟨g0,g1,g2⟩:=Fe hg
 have h1:=h0
 obtain⟨hl,⟨rfl,hn⟩|⟨g,cap,cur,rfl,hb,hh,h5,h6,h7,h8⟩⟩:=h1
 ·omega
 ·refine⟨_,FQ ho hu hc hx hi2 g0 g1,g,_,rfl,rfl,h3 _ _ g2,fun j u hu=>?_⟩
  have hjn:j<c.n:=by
   have:=(List.getElem?_eq_some_iff.1 hu).1
   simp [Ae]at this;omega
  rw [Av hjn]at hu
  have:=h0.cells (g:=g) rfl _ _ hu
  rw [CA]at this
  rw [show 0+m.toNat*c.n+j=0+(m.toNat*c.n+j) by omega];exact⟨this,by simp [World.frozen?,hh]⟩
theorem Ag{t x y u g m us us' y0 y'}(j off:Nat)(ho:o.op= .store t x y)(hx:Bm K x=some (.pointer (some ⟨g,off,none⟩)))(hy:Bm K y=some u)(hs:AB c w B S e xs v)
 (hg:v.ownBlock=some g) (hm:AE xs m=some y0) (hoff:off=0+m.toNat*c.n+j) (hn:Am P t=some u.cells.toList.length) (h1:u.cells.toList.all Value.oneCell'=true) (hrep:c.rep w S y0 us)
 (hcl:AM w g (0+m.toNat*c.n) us)
 (hus:us'=HA us j u.cells.toList) (hfit:Nat.ble (j+u.cells.toList.length) us.length=true) (hrep':c.rep w S y' us') (hS:∀k,S k->k≠g):
 Fx P N K o w (fun _ w'=>Gi g w w'∧AB c w' B S e (xs.set m.toNat y') v):=by
 obtain⟨cs,h0,h3⟩:=hs
 obtain⟨g0,g1,g2⟩:=Fe hm
 have h1':=h0
 obtain⟨hl,⟨rfl,_⟩|⟨g',cap,cur,rfl,hb,hh,h5,h6,h7,h8⟩⟩:=h1'
 ·simp [Value.ownBlock]at hg
 simp [Value.ownBlock]at hg
 subst hg
 have hfit:=Nat.le_of_ble_eq_true hfit
 have husl:us.length=c.n:=c.len hrep
 have hmn:(m.toNat+1)*c.n<=xs.length*c.n:=Nat.mul_le_mul_right _ (by omega)
 rw [Nat.add_mul]at hmn
 have hcap:xs.length*c.n<=cap*c.n:=Nat.mul_le_mul_right _ h5
 obtain⟨ti,hi,hsz⟩:=Option.map_eq_some_iff.1 hn
 have hst:=run_storeCells_at P g' off e u.cells.toList 0 cur w hh (by rw [h7];omega) (List.all_eq_true.1 h1)
 simp only [Nat.add_zero]at hst
 intro a hK Kt Q hk
 have hr:(execOp a.eval o).run P w= .ok .skip (w.setRow g' (HA cur.toList off u.cells.toList).toArray):=by
  simp [execOp,ho,hK.ev hx,hK.ev hy,Instr.storeAt,Instr.sureAddr,storeVar,Sem.run_bind,sizeOf,typeInfo,hi,hsz,HA]at hst ⊢
  rw [hst]
  simp
 unfold Oper.wp
 rw [hr]
 clear hr hst h1 hy hsz hn ho
 revert hus hfit hk
 generalize u.cells.toList=us2
 intro hus hfit hk
 refine hk _ _ ⟨Gi.setRow _ _ _,HA cs off us2,⟨?_,.inr ⟨g',cap,_,by simp,hb,setRow_heap w g' cur _ e _ hh,by simpa using h5,h6,?_,?_⟩⟩,?_⟩
 ·rw [Kz (by rw [hl];omega),hl];simp
 ·have:=Kz (cs:=cur.toList) (us:=us2) (p:=off) (by simp [h7];omega)
  simp only [List.size_toArray,this];simpa using h7
 ·apply List.ext_getElem?
  intro k
  rw [List.length_set]
  simp only [List.toList_toArray]
  rw [List.getElem?_take,GO (cs:=cs) (by rw [hl];omega)]
  split
  ·rename_i hk2
   rw [GO (by simp [h7];omega)]
   split
   ·rfl
   ·rw [←h8,List.getElem?_take,if_pos hk2]
  ·rename_i hk2
   rw [if_neg (by omega)]
   symm;rw [List.getElem?_eq_none];omega
 ·intro i x hx2
  rcases Ms hx2 with ⟨rfl,rfl⟩|⟨hne,hx3⟩
  ·have e1:Ae (HA cs off us2) c.n m.toNat=us':=by
    apply List.ext_getElem?
    intro q
    by_cases hq:q<c.n
    ·rw [Av hq,GO (by rw [hl];omega),hus,GO (by omega)]
     have hcq:cs[m.toNat*c.n+q]? =us[q]?:=by
      have a1:us[q]? =some (us[q]'(by omega)):=List.getElem?_eq_getElem _
      have a2:=(hcl q _ a1).1
      have hlt2:m.toNat*c.n+q<cs.length:=by rw [hl];omega
      have a3:=h0.cells (g:=g') rfl (m.toNat*c.n+q) _ (List.getElem?_eq_getElem hlt2)
      rw [CA]at a3
      rw [show 0+m.toNat*c.n+q=0+(m.toNat*c.n+q) by omega,a3]at a2
      rw [a1,List.getElem?_eq_getElem hlt2];exact a2
     split
     ·rename_i hc2
      rw [if_pos (by omega)];congr 1;omega
     ·rename_i hc2
      rw [if_neg (by omega)];exact hcq
    ·rw [List.getElem?_eq_none (by simp [Ae];omega),List.getElem?_eq_none]
     rw [hus,Kz (by omega)];omega
   rw [e1]
   exact c.mono hrep' (fun _ h=>h) (fun k hk3=>setRow_other _ _ _ _ (hS k hk3))
  ·have e1:Ae (HA cs off us2) c.n i=Ae cs c.n i:=by
    have hilt:i<xs.length:=(List.getElem?_eq_some_iff.1 hx3).1
    apply List.ext_getElem?
    intro q
    by_cases hq:q<c.n
    ·rw [Av hq,Av hq,GO (by rw [hl];omega)]
     rw [if_neg]
     rcases Nat.lt_or_gt_of_ne hne with h|h
     ·have:(m.toNat+1)*c.n<=i*c.n:=Nat.mul_le_mul_right _ h
      rw [Nat.add_mul]at this;omega
     ·have:(i+1)*c.n<=m.toNat*c.n:=Nat.mul_le_mul_right _ h
      rw [Nat.add_mul]at this;omega
    ·rw [List.getElem?_eq_none (by simp [Ae];omega),List.getElem?_eq_none (by simp [Ae];omega)]
   rw [e1]
   exact c.mono (h3 i x hx3) (fun _ h=>h) (fun k hk3=>setRow_other _ _ _ _ (hS k hk3))
/-! ### make -/
def MY(m:Int)(bytes:Nat):Option Nat:=if 0<=m∧m*bytes<=281474976710656∧m<=9223372036854775807 then some m.toNat else none
def Ca(P:Program)(t:Nat):Option (List Value×Nat×Nat):=(P.info? t).bind fun i=>i.zero.map fun z=>(z.cells.toList,i.size,i.bytes)
theorem ND{zs:List Value}{k i:Nat}(hi:i<k)(hz:0<zs.length):Ae (madeCells zs.toArray (k*zs.length)).toList zs.length i=zs:=by
 apply List.ext_getElem?
 intro q
 by_cases hq:q<zs.length
 ·rw [Av hq]
  have:(i+1)*zs.length<=k*zs.length:=Nat.mul_le_mul_right _ hi
  rw [Nat.add_mul]at this
  simp only [madeCells,Array.toList_map,Array.toList_range,List.getElem?_map]
  rw [List.getElem?_range (by omega)]
  simp [Nat.mul_add_mod_self_right,Nat.mod_eq_of_lt hq,hq]
 ·rw [List.getElem?_eq_none (by simp [Ae];omega),List.getElem?_eq_none (by omega)]
theorem CW{t l c2 zs sz by' m m' k z kd kd'}(ho:o.op= .makeSlice t l c2)(hu:P.underlying t=some (.slice e))(hi:Ca P e=some (zs,sz,by'))(hl:Bm K l=some (.int kd m))(hc:Bm K c2=some (.int kd' m'))(hmm:m'=m)
 (hk:MY m by'=some k) (hsz:sz=c.n) (hpos:Nat.blt 0 c.n=true) (hz:∀w,c.rep w (Iv 0 0) z zs):
 Fx P N K o w (fun u w'=>∃g,u= .slice (some ⟨g,0,none⟩) k k∧g=w.heap.size∧w'.heap.size=w.heap.size+1∧AJ w w'∧AB c w' g (Iv 0 0) e (List.replicate k z) u):=by
 subst hmm
 unfold Ca at hi
 obtain⟨i,hi1,hi2⟩:=Option.bind_eq_some_iff.1 hi
 obtain⟨zv,hz1,hz2⟩:=Option.map_eq_some_iff.1 hi2
 simp only [Prod.mk.injEq]at hz2
 obtain⟨e1,e2,e3⟩:=hz2
 unfold MY at hk
 split at hk
 ·rename_i hm
  injection hk with hk
  have hlen:zs.length=c.n:=c.len (hz w)
  have hr:=run_make (P:=P) w t e i zv hu hi1 hz1 kd kd' m' m' hm.1 (Int.le_refl _) (by rw [e3,Int.mul_comm];exact hm.2.1) hm.2.2
  intro a hK Kt Q hkk
  have hr2:(execOp a.eval o).run P w= .ok (.value (.slice (some ⟨w.heap.size,0,none⟩) m'.toNat m'.toNat)) (w.alloc (.cells (madeCells zv.cells (m'.toNat*i.size)) e)):=by
   simp [execOp,ho,hK.ev hl,hK.ev hc,hr]
  unfold Oper.wp
  rw [hr2]
  refine hkk _ _ ⟨w.heap.size,by rw [hk],rfl,by simp,AJ.alloc _ _,?_⟩
  have hp:0<c.n:=by have h:=hpos;simp [Nat.blt]at h;omega
  have hzc:zv.cells=zs.toArray:=by rw [←e1]
  refine⟨(madeCells zv.cells (m'.toNat*i.size)).toList,⟨?_,.inr ⟨w.heap.size,k,_,by rw [List.length_replicate,hk],Nat.le_refl _,heap_alloc_new w _,by simp,by simp only [maxLen];omega,?_,?_⟩⟩,?_⟩
  ·simp [size_madeCells,e2,hsz,hk]
  ·simp [size_madeCells,e2,hsz,hk]
  ·rw [List.take_of_length_le];simp [size_madeCells,e2,hsz,hk]
  ·intro q x hx
   have hq:q<k:=by have:=(List.getElem?_eq_some_iff.1 hx).1;simpa using this
   have hxz:x=z:=by simpa [hq] using hx.symm
   subst hxz
   rw [hzc,e2,hsz,←hlen,hk,ND hq (by omega)]
   exact c.mono (hz w) (fun _ h=>h) (fun k h=>absurd h.2 (Nat.not_lt_zero k))
 ·cases hk
end
end Go.Eng
namespace Go.Eng
open Go Go.RowKit
/-! ## append, literals -/
def Dj{α:Type}(xs ys:List α)(bytes:Nat):Option (List α):=if (xs.length+ys.length)*bytes<=140737488355328∧xs.length+ys.length<=9223372036854775807 then some (xs++ys)else none
def BS:List (List Value)->List Value
 |[]=>[]
 |us::uss=>us++BS uss
theorem Fw{n:Nat}:∀{uss:List (List Value)},(∀us∈uss,us.length=n)->(BS uss).length=uss.length*n
 |[],_=>by simp [BS]
 |us::uss,h=>by
  simp only [BS,List.length_append,List.length_cons,Nat.add_mul]
  rw [h us (List.mem_cons_self ..),Fw (fun x hx=>h x (List.mem_cons_of_mem _ hx))]
  omega
theorem Ib{n:Nat}:∀{uss:List (List Value)} {i q:Nat} {us:List Value},(∀us∈uss,us.length=n)->uss[i]? =some us->q<n->(BS uss)[i*n+q]? =us[q]?
 |[],i,q,us,_,h,_=>by simp at h
 |u0::uss,0,q,us,hl,h,hq=>by
  simp at h;subst h
  simp only [BS]
  rw [List.getElem?_append_left (by rw [hl u0 (List.mem_cons_self ..)];omega)]
  congr 1;omega
 |u0::uss,i+1,q,us,hl,h,hq=>by
  have hl0:=hl u0 (List.mem_cons_self ..)
  simp only [BS]
  rw [List.getElem?_append_right (by rw [hl0,Nat.add_mul];omega)]
  have:=Ib (uss:=uss) (i:=i) (q:=q) (fun x hx=>hl x (List.mem_cons_of_mem _ hx)) (by simpa using h) hq
  rw [←this]
  congr 1
  rw [hl0,Nat.add_mul];omega
theorem Kj{n:Nat}{uss:List (List Value)}{i:Nat}{us:List Value}(hl:∀us∈uss,us.length=n)(h:uss[i]? =some us):Ae (BS uss) n i=us:=by
 have hus:=hl us (List.mem_of_getElem? h)
 apply List.ext_getElem?
 intro q
 by_cases hq:q<n
 ·rw [Av hq,Ib hl h hq]
 ·rw [List.getElem?_eq_none (by simp [Ae];omega),List.getElem?_eq_none (by omega)]
theorem AD.all'{α:Type}{c:Bp α}{w:World}{S:Nat->Prop}{xs:List α}{v:Value}(h:AD c w S xs v)(hn:0<c.n):
 ∃uss:List (List Value),uss.length=xs.length∧(∀us∈uss,us.length=c.n)∧(∀(i:Nat) (x:α) (us:List Value),xs[i]? =some x->uss[i]? =some us->c.rep w S x us)∧
  ∃(a:Option Addr) (cap:Nat),v= .slice a xs.length cap∧(a=none->cap=0)∧(xs.length=0∨∃b off,a=some ⟨b,off,none⟩∧S b∧∀j u,(BS uss)[j]? =some u->w.cell? ⟨b,off+j,none⟩=some u):=by
 obtain⟨a,cap,rfl,h2,h3,h4⟩:=h
 by_cases hl:0<xs.length
 ·obtain⟨b,off,rfl,hb,h5⟩:=h4 hl
  have hch:∀i,i<xs.length->∃us,∀x,xs[i]? =some x->c.rep w S x us∧AM w b (off+i*c.n) us:=by
   intro i hi
   obtain⟨us,h6⟩:=h5 i _ (List.getElem?_eq_getElem hi)
   refine⟨us,fun x hx=>?_⟩
   have:x=xs[i]:=by rw [List.getElem?_eq_getElem hi]at hx;exact(Option.some.inj hx).symm
   subst this;exact h6
  obtain⟨f,hf⟩:=Go.Deep.choose_lt hch
  have hlen:∀us∈(List.range xs.length).map f,us.length=c.n:=by
   intro us hus
   obtain⟨i,hi,rfl⟩:=List.mem_map.1 hus
   exact c.len (hf i (List.mem_range.1 hi) _ (List.getElem?_eq_getElem (List.mem_range.1 hi))).1
  refine⟨(List.range xs.length).map f,by simp,hlen,?_,some ⟨b,off,none⟩,cap,rfl,h2.2,.inr ⟨b,off,rfl,hb,?_⟩⟩
  ·intro i x us hx hus
   have hi:i<xs.length:=(List.getElem?_eq_some_iff.1 hx).1
   simp [hi]at hus;subst hus
   exact(hf i hi x hx).1
  ·intro j u hu
   have hj:j<xs.length*c.n:=by
    have:=(List.getElem?_eq_some_iff.1 hu).1
    rw [Fw hlen]at this;simpa using this
   have hi:j/c.n<xs.length:=Nat.div_lt_of_lt_mul (by rw [Nat.mul_comm];exact hj)
   have hd:j/c.n*c.n+j%c.n=j:=by rw [Nat.mul_comm];exact Nat.div_add_mod j c.n
   have hg:=Ib (uss:=(List.range xs.length).map f) (i:=j/c.n) (q:=j%c.n) (us:=f (j/c.n)) hlen (by simp [hi]) (Nat.mod_lt _ hn)
   rw [hd,hu]at hg
   have:=(hf _ hi _ (List.getElem?_eq_getElem hi)).2 (j%c.n) u hg.symm
   rw [show off+j/c.n*c.n+j%c.n=off+j by omega]at this;exact this.1
 ·refine⟨[],by simp;omega,by simp,fun i x us hx hus=>by simp at hus,a,cap,rfl,h2.2,.inl (by omega)⟩
theorem TV{P:Value->Bool}:∀{uss:List (List Value)},(∀us∈uss,us.all P=true)->∀u∈BS uss,P u=true
 |[],_=>by simp [BS]
 |us::uss,h=>by
  intro u hu
  simp only [BS,List.mem_append]at hu
  rcases hu with hu|hu
  ·exact List.all_eq_true.1 (h us (List.mem_cons_self ..)) u hu
  ·exact TV (fun x hx=>h x (List.mem_cons_of_mem _ hx)) u hu
section
variable {P:Program} {N:Nat} {α:Type} {c:Bp α} {w:World} {B:Nat} {S S' S2:Nat -> Prop} {e:TypeId} {xs ys zs:List α} {v:Value} {o:Oper} {K:KL}
def BN(w w':World)(v v':Value):Prop:=w.grownBy w' v.ownBlock∧∀g,v'.ownBlock=some g->v.ownBlock=some g∨w.heap.size<=g
theorem Ss{t x y u zc sz by'}(ho:o.op= .call { callee:=.builtin .append,args:=#[x,y],argTypes:=#[t,t] })(hu:P.underlying t=some (.slice e))(hi:Ca P e=some (zc,sz,by'))(hsz:sz=c.n)(hzc:zc.length=sz)
 (hpos:Nat.blt 0 c.n=true) (hx:Bm K x=some v) (hy:Bm K y=some u) (hs:AB c w B S e xs v) (hb:B<=w.heap.size) (hr:AD c w S2 ys u) (ha:Dj xs ys by'=some zs)
 (hS:∀k,S k->S' k) (hS2:∀x us,c.rep w S2 x us->c.rep w S' x us) (hS3:∀k,S' k->k<w.heap.size∧v.ownBlock≠some k):
 Fx P N K o w (fun v' w'=>AB c w' B S' e zs v'∧BN w w' v v'):=by
 have hp:0<c.n:=by have h:=hpos;simp [Nat.blt]at h;omega
 obtain⟨cs,h0,h3⟩:=hs
 obtain⟨uss,hul,hun,hur,a,cap,rfl,hnone,hcase⟩:=AD.all' hr hp
 unfold Ca at hi
 obtain⟨i,hi1,hi2⟩:=Option.bind_eq_some_iff.1 hi
 obtain⟨z,hz1,hz2⟩:=Option.map_eq_some_iff.1 hi2
 simp only [Prod.mk.injEq]at hz2
 obtain⟨e1,e2,e3⟩:=hz2
 unfold Dj at ha
 split at ha
 case isFalse=>cases ha
 rename_i hbound
 injection ha with ha;subst ha
 intro a' hK Kt Q hk
 have hcl:(BS uss).length=ys.length*c.n:=by rw [Fw hun,hul]
 have elems:∀(w':World),w.grownBy w' v.ownBlock->∀q x,(xs++ys)[q]? =some x->c.rep w' S' x (Ae (cs++BS uss) c.n q):=by
  intro w' hgr q x hx2
  have keep:∀k,S' k->w'.heap[k]? =w.heap[k]?:=fun k hk=>hgr.block k (hS3 k hk).1 (fun e=>(hS3 k hk).2 e.symm)
  by_cases hq:q<xs.length
  ·rw [List.getElem?_append_left hq]at hx2
   have e4:Ae (cs++BS uss) c.n q=Ae cs c.n q:=by
    apply List.ext_getElem?
    intro j
    by_cases hj:j<c.n
    ·rw [Av hj,Av hj,List.getElem?_append_left]
     have:(q+1)*c.n<=xs.length*c.n:=Nat.mul_le_mul_right _ hq
     rw [Nat.add_mul]at this;rw [h0.1];omega
    ·rw [List.getElem?_eq_none (by simp [Ae];omega),List.getElem?_eq_none (by simp [Ae];omega)]
   rw [e4];exact c.mono (h3 q x hx2) hS (fun k hk=>keep k (hS k hk))
  ·rw [List.getElem?_append_right (by omega)]at hx2
   have hq2:q-xs.length<uss.length:=by rw [hul];exact(List.getElem?_eq_some_iff.1 hx2).1
   have e4:Ae (cs++BS uss) c.n q=uss[q-xs.length]:=by
    have:=Kj (i:=q-xs.length) hun (List.getElem?_eq_getElem hq2)
    rw [←this]
    apply List.ext_getElem?
    intro j
    by_cases hj:j<c.n
    ·rw [Av hj,Av hj]
     have h5:xs.length*c.n<=q*c.n:=Nat.mul_le_mul_right _ (by omega)
     rw [List.getElem?_append_right (by rw [h0.1];omega)]
     congr 1
     rw [h0.1,Nat.sub_mul];omega
    ·rw [List.getElem?_eq_none (by simp [Ae];omega),List.getElem?_eq_none (by simp [Ae];omega)]
   rw [e4];exact c.mono (hS2 _ _ (hur _ x _ hx2 (List.getElem?_eq_getElem hq2))) (fun _ h=>h) (fun k hk=>keep k hk)
 have hzs2:z.cells.size=c.n:=by rw [←hsz,←hzc,←e1];simp
 have one:∀u∈BS uss,u.oneCell'=true:=TV fun us hus=>by
  obtain⟨q,hq,rfl⟩:=List.mem_iff_getElem.1 hus
  exact c.one (hur q _ _ (List.getElem?_eq_getElem (by omega)) (List.getElem?_eq_getElem hq))
 have step:∀v' w',(Builtin.append_ #[t,t] o.type #[v,.slice a ys.length cap]).run P w= .ok v' w'->(execOp a'.eval o).run P w= .ok (.value v') w':=by
  intro v' w' hrun
  unfold execOp
  simp only [ho,resolve,invoke,builtin,Sem.run_bind,Sem.run_pure,Result.andThen_ok,List.map_toArray,List.map_cons,List.map_nil,hK.ev hx,hK.ev hy,hrun]
 cases a with
 |none=>
  have hc0:=hnone rfl
  subst hc0
  have hy0:ys.length=0:=by
   rcases hcase with h|⟨b,off,h,_⟩
   ·exact h
   ·cases h
  have hys:ys=[]:=List.eq_nil_of_length_eq_zero hy0
  subst hys
  have hrun:=run_append_owned_none (P:=P) w B t o.type e i c.n hu hi1 v xs.length cs h0
  unfold Oper.wp
  rw [step v w hrun]
  have hgr:w.grownBy w v.ownBlock:=World.grownBy.refl w _
  have huss:uss=[]:=List.eq_nil_of_length_eq_zero (by simpa using hul)
  subst huss
  refine hk _ _ ⟨⟨cs,by simpa using h0,fun q x hx2=>?_⟩,hgr,fun g hg=>.inl hg⟩
  have:=elems w hgr q x hx2
  simpa [BS] using this
 |some ad=>
  have hnews:∀j u,(BS uss)[j]? =some u->w.cell? (ad.add j)=some u:=by
   intro j u hu2
   rcases hcase with h|⟨b,off,h,_,h5⟩
   ·have:uss=[]:=List.eq_nil_of_length_eq_zero (by omega)
    subst this;simp [BS]at hu2
   ·injection h with h;subst h
    rw [CA];exact h5 j u hu2
  have hb2:(xs.length+ys.length)*by'<=140737488355328:=hbound.1
  obtain⟨v',w',hrun,hown,hgr,_⟩:=run_append_own (P:=P) w B t o.type e i z c.n by' hu hi1 hz1 (by rw [e2,hsz]) e3 hzs2 hp v xs.length cs h0 ad ys.length cap (BS uss) hcl hnews one (by simp only [maxLen];omega) hb2 hb
  have hfresh:∀g,v'.ownBlock=some g->v.ownBlock=some g∨w.heap.size<=g:=by
   rcases h0.2 with ⟨rfl,hn⟩|⟨g0,cap0,cur,rfl,hbg,hh,h5,h6,h7,h8⟩
   ·have hnil:w.ownsRow w.heap.size e c.n (.slice none 0 0) xs.length cs:=⟨h0.1,.inl ⟨rfl,hn⟩⟩
    obtain⟨v2,w2,hrun2,hown2,_⟩:=run_append_own (P:=P) w w.heap.size t o.type e i z c.n by' hu hi1 hz1 (by rw [e2,hsz]) e3 hzs2 hp _ xs.length cs hnil ad ys.length cap (BS uss) hcl hnews one (by simp only [maxLen];omega) hb2 (Nat.le_refl _)
    rw [hrun]at hrun2
    injection hrun2 with e5 e6
    subst e5
    intro g hg;exact .inr (hown2.lt g hg).1
   ·by_cases hroom:xs.length+ys.length<=cap0
    ·have hfit:xs.length*i.size+(BS uss).length<=cur.size:=by
      rw [hcl,h7,e2,hsz,←Nat.add_mul];exact Nat.mul_le_mul_right _ hroom
     have hr2:=run_append_room (P:=P) w t o.type e i hu hi1 g0 xs.length cap0 cur hh ad ys.length cap (BS uss) (by rw [e2,hsz];exact hcl) hnews one hroom hfit
     rw [hrun]at hr2
     injection hr2 with e5 e6
     subst e5
     intro g hg;exact .inl hg
    ·have holds:∀j u,cs[j]? =some u->w.cell? ((⟨g0,0,none⟩:Addr).add j)=some u:=h0.cells (g:=g0) rfl
     have hr2:=run_append_grow (P:=P) w t o.type e i z hu hi1 hz1 ⟨g0,0,none⟩ xs.length cap0 cs (by rw [e2,hsz];exact h0.1) holds ad ys.length cap (BS uss) (by rw [e2,hsz];exact hcl) hnews (by omega) (by omega) (growslice_fits (by omega) (by rw [e3];exact hb2))
     rw [hrun]at hr2
     injection hr2 with e5 e6
     subst e5
     intro g hg
     simp [Value.ownBlock]at hg
     exact .inr (by omega)
  unfold Oper.wp
  rw [step v' w' hrun]
  exact hk _ _ ⟨⟨cs++BS uss,by simpa using hown,elems w' hgr⟩,hgr,hfresh⟩
end
end Go.Eng
namespace Go.Eng
open Go Go.RowKit
/-! ## Literals -/
def JS(pl:List (Nat×Nat)):List Value->List (Nat×List Value)->Option (List Value)
 |zs,[]=>some zs
 |zs,(i,us)::ps=>match pl[i]? with
  |none=>none
  |some (off,size)=>if Nat.beq us.length size&&Nat.ble (off+us.length) zs.length then JS pl (zs.take off++us++zs.drop (off+us.length)) ps else none
theorem VB(us:List Value):∀(off k:Nat) (cs:Array Value),off+k+us.length<=cs.size->
 ((us.zipIdx k).foldl (fun cs (p:Value×Nat)=>cs.setIfInBounds (off+p.2) p.1) cs).toList=cs.toList.take (off+k)++us++cs.toList.drop (off+k+us.length):=by
 induction us with
 |nil=>intro off k cs h;simp
 |cons u us ih=>
  intro off k cs h
  simp only [List.length_cons]at h
  simp only [List.zipIdx_cons,List.foldl_cons]
  rw [ih off (k+1) _ (by simp;omega)]
  apply List.ext_getElem?
  intro j
  simp only [Array.toList_setIfInBounds,List.length_cons]
  have e1:off+(k+1)=off+k+1:=by omega
  have e2:off+k+1+us.length=off+k+(us.length+1):=by omega
  rw [e1,e2]
  have hl:(cs.toList.take (off+k)).length=off+k:=by simp;omega
  have hl2:((cs.toList.set (off+k) u).take (off+k+1)).length=off+k+1:=by simp;omega
  by_cases h1:j<off+k
  ·rw [List.append_assoc,List.getElem?_append_left (by omega),List.append_assoc,List.getElem?_append_left (by omega),List.getElem?_take,List.getElem?_take,if_pos (by omega),if_pos h1,List.getElem?_set_ne (by omega)]
  ·by_cases h2:j=off+k
   ·subst h2
    rw [List.append_assoc,List.getElem?_append_left (by omega),List.append_assoc,List.getElem?_append_right (by omega),hl,List.getElem?_take,if_pos (by omega),List.getElem?_set_self (by simp;omega)]
    simp
   ·by_cases h3:j<off+k+(us.length+1)
    ·rw [List.append_assoc,List.getElem?_append_right (by omega),hl2,List.getElem?_append_left (by omega),List.append_assoc,List.getElem?_append_right (by omega),hl,List.cons_append,show j-(off+k)=(j-(off+k+1))+1 by omega,List.getElem?_cons_succ,List.getElem?_append_left (by omega)]
    ·rw [List.getElem?_append_right (by simp;omega),List.getElem?_append_right (by simp;omega),List.getElem?_drop,List.getElem?_drop]
     simp only [List.length_append,hl,hl2,List.length_cons]
     rw [List.getElem?_set_ne (by omega)]
     congr 1;omega
theorem Mt{place:Nat->Option (Nat×Nat)}{pl:List (Nat×Nat)}(hp:∀i x,pl[i]? =some x->place i=some x):∀(ps:List (Nat×Value)) (uss:List (Nat×List Value)) (cs:Array Value) (out:List Value),
 ps.map (fun p=>(p.1,p.2.cells.toList))=uss->JS pl cs.toList uss=some out->Instr.fill place cs ps=some out.toArray
 |[],uss,cs,out,h,hf=>by
  simp at h;subst h
  simp [JS]at hf;subst hf
  simp [Instr.fill]
 |(i,v)::ps,uss,cs,out,h,hf=>by
  simp at h;subst h
  simp only [JS]at hf
  split at hf
  ·cases hf
  ·rename_i off size hpl
   split at hf
   ·rename_i hc
    simp only [Bool.and_eq_true,Array.length_toList]at hc
    have hc1:v.cells.size=size:=Nat.eq_of_beq_eq_true hc.1
    have hc2:off+v.cells.size<=cs.size:=Nat.le_of_ble_eq_true hc.2
    rw [Instr.fill,hp i _ hpl]
    simp only
    rw [if_neg (by simp [hc1];omega)]
    refine Mt hp ps _ _ out rfl ?_
    have:=VB v.cells.toList off 0 cs (by simp;omega)
    have e:(v.cells.zipIdx.foldl (fun cs (p:Value×Nat)=>cs.setIfInBounds (off+p.2) p.1) cs).toList=cs.toList.take off++v.cells.toList++cs.toList.drop (off+v.cells.toList.length):=by
     rw [←Array.foldl_toList,Array.toList_zipIdx]
     simpa using this
    rw [e];exact hf
   ·cases hf
def EK(P:Program)(t:Nat):Option (List (Nat×Nat)):=
 match P.underlying t with
 |some (.struct fs)=>fs.toList.mapM fun f=>(P.info? f.type).map fun i=>(f.offset,i.size)
 |some (.array n e)=>(P.info? e).map fun i=>(List.range n).map fun k=>(k*i.size,i.size)
 |_=>none
def IT(K:KL):List (Nat×Operand)->Option (List (Nat×Value))
 |[]=>some []
 |(i,x)::xs=>match Bm K x,IT K xs with|some v,some vs=>some ((i,v)::vs)|_,_=>none
section
variable {P:Program} {N:Nat} {α:Type} {c:Bp α} {w:World} {B:Nat} {S S':Nat -> Prop} {e:TypeId} {xs ys zs:List α} {v:Value} {o:Oper} {K:KL}
theorem Kn.parts{a}(h:Kn N K a):∀{xs vs},IT K xs=some vs->xs.map (fun(p:Nat×Operand)=>(p.1,a.eval p.2))=vs
 |[],vs,e=>by simp [IT]at e;subst e;rfl
 |(i,x)::xs,vs,e=>by
  unfold IT at e
  split at e
  ·rename_i v vs' h1 h2
   injection e with e;subst e
   simp [h.ev h1,h.parts h2]
  ·cases e
theorem Sl{fs:List Field}{pl:List (Nat×Nat)}(h:fs.mapM (fun f=>(P.info? f.type).map fun i=>(f.offset,i.size))=some pl)(w:World):
 (fs.mapM (m:=Sem) fun f=>do pure (f.offset,←sizeOf f.type)).run P w= .ok pl w:=by
 induction fs generalizing pl with
 |nil=>simp at h;subst h;simp
 |cons f fs ih=>
  simp only [List.mapM_cons,Option.bind_eq_bind,Option.bind_eq_some_iff,Option.pure_def,Option.some.injEq]at h
  obtain⟨p,h1,ps,h2,rfl⟩:=h
  obtain⟨i,hi,rfl⟩:=Option.map_eq_some_iff.1 h1
  have:=ih h2
  simp [List.mapM_cons,sizeOf,typeInfo,hi]at this ⊢
  simp [this]
theorem Cq{t parts vs uss zc pl out}(ho:o.op= .build t parts)(hp:IT K parts.toList=some vs)(hz:DM P t=some zc)(hpl:EK P t=some pl)
 (hu:vs.map (fun p=>(p.1,p.2.cells.toList))=uss) (hf:JS pl zc uss=some out):Df P N K o w (.agg out.toArray):=by
 intro a hK w' _
 have e1:=hK.parts hp
 unfold DM at hz
 obtain⟨i,hi,hz2⟩:=Option.bind_eq_some_iff.1 hz
 obtain⟨z,hz3,hz4⟩:=Option.map_eq_some_iff.1 hz2
 have ep:(parts.map fun(p:Nat×Operand)=>(p.1,a.eval p.2)).toList=vs:=by rw [Array.toList_map];exact e1
 unfold EK at hpl
 split at hpl
 ·rename_i fs hus
  have hr:=Sl hpl w'
  have hfill:=Mt (place:=fun i=>pl[i]?) (pl:=pl) (fun i x h=>h) vs uss z.cells out hu (by rw [hz4];exact hf)
  simp only [execOp,ho,Instr.build,zeroValue,typeInfo,Sem.run_bind,Result.andThen_ok,Sem.run_pure,run_underlying hus]
  have hm:(fs.mapM (m:=Sem) fun f=>do pure (f.offset,←sizeOf f.type)).run P w'= .ok pl.toArray w':=by
   rw [show fs=fs.toList.toArray by simp,List.mapM_toArray]
   have hr':=hr
   simp at hr' ⊢
   simp [hr']
  simp [hi,hz3]
  simp at hm
  rw [hm]
  have ep2:(Array.map (fun x=>(x.fst,a.eval x.snd)) parts).toList=vs:=ep
  simp at ep2
  simp [ep2,hfill]
 ·rename_i n e hus
  obtain⟨j,hj,rfl⟩:=Option.map_eq_some_iff.1 hpl
  have hfill:=Mt (place:=fun i=>some (i*j.size,j.size)) (pl:=(List.range n).map fun k=>(k*j.size,j.size)) (fun i x h=>by
   have hin:i<n:=by have:=(List.getElem?_eq_some_iff.1 h).1;simpa using this
   simpa [hin] using h) vs uss z.cells out hu (by rw [hz4];exact hf)
  have ep2:(Array.map (fun x=>(x.fst,a.eval x.snd)) parts).toList=vs:=ep
  simp at ep2
  simp [execOp,ho,Instr.build,zeroValue,typeInfo,run_underlying hus,hi,hz3,sizeOf,hj,ep2,hfill]
 ·cases hpl
theorem GG{t len parts vs uss zc sz by' out}(ho:o.op= .buildSlice t len parts)(hu:P.underlying t=some (.slice e))(hi:Ca P e=some (zc,sz,by'))(hp:IT K parts.toList=some vs)
 (huss:vs.map (fun p=>(p.1,p.2.cells.toList))=uss) (hf:JS ((List.range len).map fun k=>(k*sz,sz)) (madeCells zc.toArray (len*sz)).toList uss=some out)
 (hsm:Nat.ble (len*sz) 16777216=true) (hsz:sz=c.n) (hpos:Nat.blt 0 c.n=true) (hl:len=xs.length) (hrep:∀i x,xs[i]? =some x->c.rep w S x (Ae out c.n i)) (hS:∀k,S k->k<w.heap.size) (hol:out.length=len*sz):
 Fx P N K o w (fun u w'=>∃g,u= .slice (some ⟨g,0,none⟩) len len∧g=w.heap.size∧w'.heap.size=w.heap.size+1∧AJ w w'∧AB c w' g S e xs u):=by
 intro a hK Kt Q hk
 have e1:=hK.parts hp
 unfold Ca at hi
 obtain⟨i,hi1,hi2⟩:=Option.bind_eq_some_iff.1 hi
 obtain⟨z,hz1,hz2⟩:=Option.map_eq_some_iff.1 hi2
 simp only [Prod.mk.injEq]at hz2
 obtain⟨e3,e4,e5⟩:=hz2
 have hsm:=Nat.le_of_ble_eq_true hsm
 have ep:(parts.map fun(p:Nat×Operand)=>(p.1,a.eval p.2)).toList=vs:=by rw [Array.toList_map];exact e1
 have hzc:z.cells=zc.toArray:=by rw [←e3]
 have hfill:=Mt (place:=fun i=>some (i*sz,sz)) (pl:=(List.range len).map fun k=>(k*sz,sz)) (fun i x h=>by
  have hin:i<len:=by have:=(List.getElem?_eq_some_iff.1 h).1;simpa using this
  simpa [hin] using h) vs uss (madeCells zc.toArray (len*sz)) out huss hf
 have hr:(execOp a.eval o).run P w= .ok (.value (.slice (some ⟨w.heap.size,0,none⟩) len len)) (w.alloc (.cells out.toArray e)):=by
  have ep2:(Array.map (fun x=>(x.fst,a.eval x.snd)) parts).toList=vs:=ep
  have hle:¬(16777216<len*sz):=by omega
  by_cases h0:len*sz=0
  ·have hm:madeCells zc.toArray (len*sz)= #[]:=by rw [h0];simp [madeCells]
   rw [hm]at hfill
   simp at ep2
   simp [execOp,ho,Instr.buildSlice,run_underlying hu,sizeOf,typeInfo,hi1,e4,h0,ep2,Array.range_zero']
   skip
   simp [hfill,newRow,newObj]
   try simp [Sem.run,Result.andThen]
  ·simp at ep2
   simp [execOp,ho,Instr.buildSlice,run_underlying hu,sizeOf,typeInfo,hi1,e4,h0,hle,ep2,zeroValue,hz1]
   have hm:(Array.map (fun x=>z.cells[x%z.cells.size]!) (Array.range (len*sz)))=madeCells zc.toArray (len*sz):=by rw [hzc];rfl
   skip
   simp [hm,hfill,newRow,newObj]
   try simp [Sem.run,Result.andThen]
 unfold Oper.wp
 rw [hr]
 refine hk _ _ ⟨w.heap.size,rfl,rfl,by simp,AJ.alloc _ _,out,?_,fun q x hx=>c.mono (hrep q x hx) (fun _ h=>h) (fun k hk=>Below.heap_alloc w _ k (hS k hk))⟩
 have h1:=World.ownsRow_lit (e:=e) (size:=c.n) w out.toArray len (Nat.le_refl w.heap.size) (by
  have:len<=len*sz:=Nat.le_mul_of_pos_right _ (by have h:=hpos;simp [Nat.blt]at h;omega)
  simp only [maxLen];omega) (by simp [hol,hsz])
 rw [←hl]
 simpa using h1
end
end Go.Eng
namespace Go.Eng
open Go Go.RowKit
/-! ## Regions whose order is drawn, with operations that act -/
section
variable {P:Program} {N:Nat} {ops:Array Oper} {Q:Exit -> Act -> World -> Prop} {md:Region.Mode} {S S':World -> Prop} {n:Nat}
def CL(P:Program)(md:Region.Mode)(ops:Array Oper)(n:Nat)(Q:Exit->Act->World->Prop)(S:World->Prop):Nat->Array Bool->Act->World->Prop
 |0,listed,a,w=>Region.ready md ops listed=[]∧Q .normal a w
 |f+1,listed,a,w=>(Region.ready md ops listed=[]->Q .normal a w)∧
  ∀i∈Region.ready md ops listed,wpOp P ops Q i (fun a' w'=>(i<n->S w')∧CL P md ops n Q S f (listed.setIfInBounds i true) a' w') a w
theorem CL.any:∀(f:Nat) (listed:Array Bool) (a:Act) (w:World),CL P md ops n Q S f listed a w->wpAny P md ops Q f listed a w
 |0,_,_,_,h=>h
 |f+1,_,_,_,h=>⟨h.1,fun i hi=>wpOp_mono (fun a' w' h'=>CL.any f _ a' w' h'.2) (h.2 i hi)⟩
theorem CL.mono(hS:∀w,S' w->S w):∀(f:Nat) (listed:Array Bool) (a:Act) (w:World),CL P md ops n Q S' f listed a w->CL P md ops n Q S f listed a w
 |0,_,_,_,h=>h
 |f+1,_,_,_,h=>⟨h.1,fun i hi=>wpOp_mono (fun a' w' h'=>⟨fun hn=>hS _ (h'.1 hn),CL.mono hS f _ a' w' h'.2⟩) (h.2 i hi)⟩
theorem CL.first{i:Nat}{oi:Oper}{v:Value}(hi:ops[i]? =some oi)(hin:i<n)(hnn:n<=ops.size)(hsel:∀(j:Nat) (o:Oper) cs b,ops[j]? =some o->o.op≠ .select cs b)
 (htail:n=ops.size∨(Region.sinkB md ops n=true∧Region.chainB md ops n=true∧n<ops.size))
 (hQ:∀c a w,Q (.panic c) (a.put oi.dst v) w->Q (.panic c) a w):
 ∀(f:Nat) (listed:Array Bool) (a:Act) (w:World),HeadInv md ops n listed->
  (∀j oj,ops[j]? =some oj->j≠i->listed.getD j true=false->(∀e∈oj.after,Region.binds md e=true->e.on≠i)->oi.apart ops oj=true)->
  i∈Region.ready md ops listed->YieldsIf P ops S oi v a->S w->
  CL P md ops n Q S f (listed.setIfInBounds i true) (a.put oi.dst v) w->CL P md ops n Q S (f+1) listed a w:=by
 have headonly:∀listed,HeadInv md ops n listed->i∈Region.ready md ops listed->∀j∈Region.ready md ops listed,j<n:=by
  intro listed inv hr j hj
  have hjs:j<ops.size:=by
   obtain⟨_,oj,hoj,_⟩:=mem_ready.1 hj
   exact(Array.getElem?_eq_some_iff.1 hoj).1
  rcases htail with h|⟨h1,h2,h3⟩
  ·omega
  ·rcases Nat.lt_or_ge j n with h|h
   ·exact h
   ·exact absurd hj (tail_waits h1 h2 h3 inv _ i rfl hin (mem_ready.1 hr).1 j h)
 intro f
 induction f with
 |zero=>
  intro listed a w inv _ hr hy hS H
  refine⟨fun h=>(by rw [h]at hr;cases hr),fun j hj=>?_⟩
  by_cases hji:j=i
  ·subst hji;exact hy.wpOp hi hS ⟨fun _=>hS,H⟩
  ·have:=ready_mono hj hji
   rw [H.1]at this
   cases this
 |succ f ih=>
  intro listed a w inv hfree hr hy hS H
  refine⟨fun h=>(by rw [h]at hr;cases hr),fun j hj=>?_⟩
  have hjn:=headonly listed inv hr j hj
  by_cases hji:j=i
  ·subst hji;exact hy.wpOp hi hS ⟨fun _=>hS,H⟩
  ·have h1:=H.2 j (ready_mono hj hji)
   obtain⟨hjun,oj,hoj,hall⟩:=mem_ready.1 hj
   have hnot:∀e∈oj.after,Region.binds md e=true->e.on≠i:=fun e he hb heq=>by
    have h1:=hall e he hb
    rw [heq,getD_both (mem_ready.1 hr).1]at h1
    cases h1
   have h2:=wpOp_putIf hoj (hfree j oj hoj hji hjun hnot) (fun cs b=>hsel i oi cs b hi) (fun cs b=>hsel j oj cs b hoj) hQ hy h1
   have hfree':∀k ok,ops[k]? =some ok->k≠i->(listed.setIfInBounds j true).getD k true=false->
    (∀e∈ok.after,Region.binds md e=true->e.on≠i)->oi.apart ops ok=true:=fun k ok hk hki hun hno=>by
    refine hfree k ok hk hki ?_ hno
    by_cases hjk:j=k
    ·subst hjk;exact hjun
    ·rw [getD_set_ne true hjk]at hun;exact hun
   refine wpOp_mono (fun a' w' h3=>⟨fun _=>h3.2.1 hjn,ih (listed.setIfInBounds j true) a' w' (inv.set hj hjn) hfree' (ready_mono hr (Ne.symm hji)) h3.1 (h3.2.1 hjn) ?_⟩) h2
   rw [Array.setIfInBounds_comm _ _ hji]
   exact h3.2.2
theorem CL.seq{Q':Exit->Act->World->Prop}:∀(l:List Oper) (k:Nat) (listed:Array Bool) (a:Act) (w:World),(∀j,l[j]? =ops[k+j]?)->n<=k->
 Region.seqB md ops l.length k listed=true->wpList P ops Q' l a w->CL P md ops n Q' S l.length listed a w
 |[],k,listed,a,w,hl,hk,hB,h=>⟨by simpa [Region.seqB] using hB,h⟩
 |o::l,k,listed,a,w,hl,hk,hB,h=>by
  have h0:ops[k]? =some o:=by simpa using (hl 0).symm
  simp only [List.length_cons,Region.seqB,Bool.and_eq_true,decide_eq_true_eq]at hB
  refine⟨fun h1=>(by rw [hB.1]at h1;cases h1),fun i hi=>?_⟩
  rw [hB.1]at hi
  have hik:i=k:=by simpa using hi
  subst hik
  have hw:wpOp P ops Q' i (wpList P ops Q' l) a w:=by unfold wpOp;simp only [h0];exact h
  exact wpOp_mono (fun a' w' h'=>⟨fun h=>absurd h (by omega),CL.seq l (i+1) _ a' w' (fun j=>by have:=hl (j+1);simpa [Nat.add_assoc,Nat.add_comm 1 j] using this) (by omega) hB.2 h'⟩) hw
def HL(P:Program)(N:Nat)(ops:Array Oper)(n:Nat)(Q:Exit->Act->World->Prop)(w0:World)(f:Nat)(listed:Array Bool)(K:KL)(w:World):Prop:=
 HeadInv .any ops n listed->AJ w0 w->∀a,Kn N K a->CL P .any ops n Q (fun w'=>AJ w0 w') f listed a w
def noPan(Q:Exit->Act->World->Prop):Exit->Act->World->Prop
 | .panic _,_,_=>False
 |e,a,w=>Q e a w
def DB(ops:Array Oper)(n:Nat):Bool:=Region.noSelect ops&&Nat.ble n ops.size&&(Nat.beq n ops.size||(Region.sinkB .any ops n&&Region.chainB .any ops n&&Nat.blt n ops.size))
theorem DB.spec(h:DB ops n=true):Region.noSelect ops=true∧n<=ops.size∧(n=ops.size∨(Region.sinkB .any ops n=true∧Region.chainB .any ops n=true∧n<ops.size)):=by
 unfold DB at h
 simp only [Bool.and_eq_true,Bool.or_eq_true]at h
 refine⟨h.1.1,Nat.le_of_ble_eq_true h.1.2,?_⟩
 rcases h.2 with h|h
 ·exact .inl (Nat.eq_of_beq_eq_true h)
 ·refine .inr ⟨h.1.1,h.1.2,?_⟩
  have h2:=h.2;simp [Nat.blt]at h2;omega
variable {K:KL} {w w0:World} {f:Nat} {listed:Array Bool}
theorem HL.yld{o:Oper}{v:Value}(i:Nat)(hh:DB ops n=true)(hi:ops[i]? =some o)(hc:(Nat.blt i n&&Region.free .any ops listed i&&(Region.ready .any ops listed).contains i)=true)(hg:o.guard=none)(hd:Bw N o.dst=true)
 (h:Df P N K o w0 v) (k:HL P N ops n (noPan Q) w0 f (listed.setIfInBounds i true) (BC K o.dst v) w):HL P N ops n (noPan Q) w0 (f+1) listed K w:=by
 intro inv hx a hK
 obtain⟨hs,hn,ht⟩:=DB.spec hh
 simp only [Bool.and_eq_true]at hc
 have hin:i<n:=by have h2:=hc.1.1;simp [Nat.blt]at h2;omega
 have hr:i∈Region.ready .any ops listed:=by simpa using hc.2
 refine CL.first hi hin hn (Region.noSelect_spec hs) ht (fun c a w h=>h.elim) f listed a w inv (Region.free_spec hi hc.1.2) hr ?_ hx (k (inv.set hr hin) hx _ (hK.put (Bw.h hd)))
 exact .inl ⟨by simp [Region.wanted,hg],fun w' hw'=>h a hK w' hw'⟩
theorem HL.eff{o:Oper}{R:Value->World->Prop}(i:Nat)(hi:ops[i]? =some o)(hin:Nat.blt i n=true)(hr:Region.ready .any ops listed=[i])(hg:o.guard=none)(hd:Bw N o.dst=true)
 (h:Fx P N K o w R) (k:∀v w',R v w'->AJ w0 w'∧HL P N ops n (noPan Q) w0 f (listed.setIfInBounds i true) (BC K o.dst v) w'):HL P N ops n (noPan Q) w0 (f+1) listed K w:=by
 intro inv hx a hK
 have hin':i<n:=by have h2:=hin;simp [Nat.blt]at h2;omega
 have hri:i∈Region.ready .any ops listed:=by rw [hr];simp
 refine⟨fun h0=>(by rw [h0]at hr;cases hr),fun j hj=>?_⟩
 rw [hr]at hj
 have hji:j=i:=by simpa using hj
 subst hji
 unfold wpOp
 simp only [hi]
 rw [if_pos (by simp [Region.wanted,hg])]
 refine .inl (h a hK _ _ fun u w' hR=>?_)
 obtain⟨h1,h2⟩:=k u w' hR
 exact⟨fun _=>h1,h2 (inv.set hri hin') h1 _ (hK.put (Bw.h hd))⟩
theorem HL.shrink(h:HL P N ops n Q w f listed K w):HL P N ops n Q w0 f listed K w:=by
 intro inv hx a hK
 exact CL.mono (fun w2 h2=>AJ.trans hx h2) _ _ _ _ (h inv (AJ.refl w) a hK)
theorem HL.tail{l:List Oper}(hops:ops=l.toArray)(hseq:Region.seqB .any ops (l.drop n).length n listed=true)(hf:f=(l.drop n).length)(k:TL P N ops (noPan Q) (l.drop n) K w):HL P N ops n (noPan Q) w0 f listed K w:=by
 intro inv hx a hK
 rw [hf]
 exact CL.seq (l.drop n) n listed a w (fun j=>by rw [hops,List.getElem?_drop];simp) (Nat.le_refl n) hseq (k a hK)
theorem HL.done(hr:Region.ready .any ops listed=[])(h:NX N Q .normal K w):HL P N ops n (noPan Q) w0 f listed K w:=by
 intro inv hx a hK
 cases f with
 |zero=>exact⟨hr,h a hK⟩
 |succ f=>exact⟨fun _=>h a hK,by rw [hr];simp⟩
theorem WC.held{id:Nat}{l:List Oper}(n:Nat)(hm:P.follows .mixedOrders=true)
 (h:∀w',AJ w w'->HL P N l.toArray n (noPan Q) w' l.length (Array.replicate l.length false) K w'):WC P N (.region id l.toArray true) Q K w:=by
 intro a hK
 have inv0:HeadInv .any l.toArray n (Array.replicate l.length false):=
  ⟨by simp,fun j oj _ hl=>(by rw [getD_replicate_false]at hl;cases hl),fun t _ ht=>getD_in (by simpa using ht) (getD_replicate_false _ _)⟩
 refine Code.wp_mono ?_ (wp_region_any hm (CL.any _ _ _ _ (h w.drew (AJ.drew w) (by simpa using inv0) (AJ.refl _) a hK)))
 intro e a w hq
 cases e<;>first|exact hq|exact hq.elim
theorem TL.noPan{l:List Oper}(h:NX N Q .normal K w):TL P N ops (noPan Q) [] K w:=fun a hK=>h a hK
end
/-! ## More operations -/
section
variable {P:Program} {N:Nat} {α:Type} {c:Bp α} {w:World} {S:Nat -> Prop} {xs:List α} {v:Value} {o:Oper} {K:KL}
theorem Ax{x a}(ho:o.op= .nilCheck x)(hx:Bm K x=some (.pointer (some a))):Df P N K o w (.pointer (some a)):=by
 intro a hK w' _
 simp [execOp,ho,hK.ev hx]
def NI{α:Type}(xs:List α)(lo hi:Int):Option (List α):=if 0<=lo∧lo<=hi∧hi<=xs.length then some ((xs.take hi.toNat).drop lo.toNat)else none
theorem FU{k:IntKind}{i:Int}{y:Nat}{code:BoundsCode}{w:World}(h0:0<=i)(h1:i<=y):(Instr.sliceBound (.int k i) y code).run P w= .ok i.toNat w:=by
 simp [Instr.sliceBound,asIntOf,h0,h1]
theorem WD{e:TypeId}{a:Option Addr}{cap:Nat}{lo hi:Int}(h1:xs.length<=cap∧(a=none->cap=0))(h3:cap<=9223372036854775807)
 (h4:0<xs.length->∃b off,a=some ⟨b,off,none⟩∧S b∧∀i x,xs[i]? =some x->∃us,c.rep w S x us∧AM w b (off+i*c.n) us)
 (g0:0<=lo) (g1:lo<=hi) (g2:hi<=xs.length):
 AD c w S ((xs.take hi.toNat).drop lo.toNat) (.slice (if cap=lo.toNat then a else a.map (·.add (lo.toNat*c.n))) (hi.toNat-lo.toNat) (cap-lo.toNat)):=by
 have hl:((xs.take hi.toNat).drop lo.toNat).length=hi.toNat-lo.toNat:=by simp;omega
 refine⟨_,_,by rw [hl],⟨by rw [hl];omega,fun h=>?_⟩,by omega,fun hpos=>?_⟩
 ·split at h
  ·omega
  ·have:a=none:=by cases a<;>simp_all
   have:=h1.2 this;omega
 ·rw [hl]at hpos
  obtain⟨b,off,rfl,hb,h5⟩:=h4 (by omega)
  rw [if_neg (by omega)]
  refine⟨b,off+lo.toNat*c.n,by simp [CA],hb,fun i x hx=>?_⟩
  rw [List.getElem?_drop,List.getElem?_take]at hx
  split at hx
  ·obtain⟨us,h6,h7⟩:=h5 _ _ hx
   refine⟨us,h6,?_⟩
   have e1:off+lo.toNat*c.n+i*c.n=off+(lo.toNat+i)*c.n:=by rw [Nat.add_mul];omega
   rw [e1];exact h7
  ·cases hx
theorem Me{t x hi e k2 m2 zs}(ho:o.op= .slice t x none (some hi) none)(hu:P.underlying t=some (.slice e))(hc:Am P e=some c.n)(hx:Bm K x=some v)(h2:Bm K hi=some (.int k2 m2))
 (hs:AD c w S xs v) (hz:NI xs 0 m2=some zs):YE P N K o w (fun u=>AD c w S zs u):=by
 obtain⟨a,cap,rfl,g1,g3,g4⟩:=hs
 unfold NI at hz
 split at hz
 ·rename_i hb
  injection hz with hz;subst hz
  obtain⟨i,hi2,hsz⟩:=Option.map_eq_some_iff.1 hc
  refine⟨_,fun a' hK w' he=>?_,WD (e:=e) g1 g3 g4 hb.1 hb.2.1 hb.2.2⟩
  have e1:(Instr.sliceBound (.int k2 m2) cap .sliceAcap).run P w'= .ok m2.toNat w':=FU (by omega) (by omega)
  simp [execOp,ho,hK.ev hx,hK.ev h2,Instr.sliceAt,Instr.slice,run_underlying hu,Instr.sliceBounds,e1,sizeOf,typeInfo,hi2,hsz]
 ·cases hz
def PK(s:ByteArray)(i:Int):Option Int:=if 0<=i then(s[i.toNat]?).map fun b=>(b.toNat:Int)else none
theorem Em{t x i s k m b}(ho:o.op= .index t x i)(hu:P.underlying t=some .string)(hx:Bm K x=some (.string s))(hi:Bm K i=some (.int k m))(hb:PK s m=some b):Df P N K o w (.int .u8 b):=by
 intro a hK w' _
 unfold PK at hb
 split at hb
 ·rename_i h0
  obtain⟨q,h1,rfl⟩:=Option.map_eq_some_iff.1 hb
  simp [execOp,ho,hK.ev hx,hK.ev hi,Instr.index,asIntOf,run_underlying hu,h0,h1]
 ·cases hb
end
/-! ## Slices of the call's own whose elements lead into memory -/
abbrev SX(B hi:Nat)(v:Value):Nat->Prop:=fun k=>B<=k∧k<hi∧v.ownBlock≠some k
section
variable {α:Type} {c:Bp α} {w w':World} {B hi:Nat} {e:TypeId} {xs zs:List α} {v v':Value}
theorem AB.extN(h:AB c w B (SX B hi v) e xs v)(he:AJ w w')(hle:hi<=w.heap.size):AB c w' B (SX B hi v) e xs v:=
 h.keep (fun g hg=>he.block g (h.blk g hg).2) (fun _ h=>h) (fun k h=>he.block k (by have:=h.2.1;omega))
theorem AB.updN{b:Nat}(h:AB c w B (SX B hi v) e xs v)(hu:Gi b w w')(hne:∀g,v.ownBlock=some g->g≠b)(hb:b<B∨hi<=b:=by omega):AB c w' B (SX B hi v) e xs v:=
 h.keep (fun g hg=>hu.block g (hne g hg)) (fun _ h=>h) (fun k h=>hu.block k (by have:=h.1;have:=h.2.1;omega))
theorem AB.wideN{hi':Nat}(h:AB c w B (SX B hi v) e xs v)(hle:hi<=hi':=by omega):AB c w B (SX B hi' v) e xs v:=
 h.keep (fun _ _=>rfl) (fun k h=>⟨h.1,by have:=h.2.1;omega,h.2.2⟩) (fun _ _=>rfl)
theorem AB.slN{lo hi':Nat}(h:AB c w B (SX B hi v) e xs v)(h1:lo<=B:=by omega)(h2:w.heap.size<=hi':=by omega)(h3:hi<=hi':=by omega):AD c w (Iv lo hi') xs v:=
 h.sl (fun k h=>⟨by have:=h.1;omega,by have:=h.2.1;omega⟩) (fun k h4 h5=>⟨by omega,by omega⟩)
theorem BN.below{lo:Nat}(h:BN w w' v v')(hb:∀g,v.ownBlock=some g->lo<=g):Below lo w w'∨w.heap.size<lo:=by
 by_cases hl:lo<=w.heap.size
 ·exact .inl ⟨h.1.os,h.1.tape,h.1.output,h.1.size,fun k hk=>h.1.block k (by omega) (fun e=>by have:=hb k e.symm;omega)⟩
 ·exact .inr (by omega)
theorem BN.low{lo:Nat}(h:BN w w' v v')(hb:∀g,v.ownBlock=some g->lo<=g)(hl:lo<=w.heap.size):Below lo w w':=by
 rcases h.below hb with h|h
 ·exact h
 ·omega
theorem BN.box{b:Nat}{us:List Value}{t:TypeId}(h:BN w w' v v')(hb:BK w b us t)(hne:∀g,v.ownBlock=some g->g≠b):BK w' b us t:=by
 unfold BK;rw [h.1.block b hb.lt (fun e=>hne b e.symm rfl)];exact hb
theorem BN.slr{lo hi:Nat}(h:BN w w' v v'){ys:List α}{u:Value}(hs:AD c w (Iv lo hi) ys u)(hne:∀g,v.ownBlock=some g->g<lo∨hi<=g)(hle:hi<=w.heap.size:=by omega):AD c w' (Iv lo hi) ys u:=
 hs.mono (fun _ h=>h) (fun k hk=>h.1.block k (by have:=hk.2;omega) (fun e=>by have:=hne k e.symm;have:=hk.1;have:=hk.2;omega))
theorem BN.bd{S:Nat->Prop}(h:BN w w' v v')(ho:AB c w' B S e zs v'){lo hi:Nat}(hb:∀g,v.ownBlock=some g->lo<=g∧g<hi)(hl:lo<=w.heap.size)(hh:hi<=w'.heap.size):∀g,v'.ownBlock=some g->lo<=g∧g<w'.heap.size:=fun g hg=>by
 have h1:=(ho.blk g hg).2
 rcases h.2 g hg with h2|h2
 ·exact⟨(hb g h2).1,h1⟩
 ·exact⟨by omega,h1⟩
end
section
variable {P:Program} {N:Nat} {α:Type} {c:Bp α} {w:World} {B:Nat} {e:TypeId} {xs ys zs:List α} {v:Value} {o:Oper} {K:KL}
theorem BB[CM c]{t x y u zc sz by'}{S2:Nat->Prop}(ho:o.op= .call { callee:=.builtin .append,args:=#[x,y],argTypes:=#[t,t] })(hu:P.underlying t=some (.slice e))(hi:Ca P e=some (zc,sz,by'))(hsz:sz=c.n)(hzc:zc.length=sz)
 (hpos:Nat.blt 0 c.n=true) (hx:Bm K x=some v) (hy:Bm K y=some u) (hs:AB c w B (Iv 0 0) e xs v) (hb:B<=w.heap.size) (hr:AD c w S2 ys u) (ha:Dj xs ys by'=some zs):
 Fx P N K o w (fun v' w'=>AB c w' B (Iv 0 0) e zs v'∧BN w w' v v'):=
 Ss (S':=Iv 0 0) ho hu hi hsz hzc hpos hx hy hs hb hr ha (fun _ h=>h) (fun _ _ h=>CM.any h) (fun k h=>absurd h.2 (Nat.not_lt_zero k))
end
end Go.Eng
namespace Go.Eng
open Go Go.RowKit
section
variable {α β:Type} {c:Bp α} {d:Bp β} {w w':World} {B hi:Nat} {e e2:TypeId} {xs zs:List α} {ys:List β} {v v' u:Value}
theorem BN.ownF[CM d](h:BN w w' v v')(ho:AB d w B (Iv 0 0) e2 ys u)(hne:∀g q,v.ownBlock=some g->u.ownBlock=some q->g≠q):AB d w' B (Iv 0 0) e2 ys u:=
 ho.keep (fun q hq=>h.1.block q (ho.blk q hq).2 (fun e=>hne q q e.symm hq rfl)) (fun _ h=>h) (fun k h=>absurd h.2 (Nat.not_lt_zero k))
theorem BN.sepP{p:Nat->Prop}(h:BN w w' v v')(h1:∀g,v.ownBlock=some g->p g)(h2:∀g,w.heap.size<=g->p g):∀g,v'.ownBlock=some g->p g:=fun g hg=>(h.2 g hg).elim (h1 g) (h2 g)
theorem BT{g k k2:Nat}{u:Value}(h:u= .slice (some ⟨g,0,none⟩) k k2):∀q,u.ownBlock=some q->g<=q∧q<g+1:=by
 subst h;intro q hq
 have h2:g=q:=Option.some.inj hq
 omega
theorem FB{lo hi:Nat}:∀q,(Value.slice none 0 0).ownBlock=some q->lo<=q∧q<hi:=fun q h=>by cases h
theorem AB.toN{g k k2:Nat}(h:AB c w g (Iv 0 0) e xs u)(hu:u= .slice (some ⟨g,0,none⟩) k k2):AB c w g (SX g (g+1) u) e xs u:=
 h.keep (fun _ _=>rfl) (fun k h=>absurd h.2 (Nat.not_lt_zero k)) (fun _ _=>rfl)
end
section
variable {P:Program} {N:Nat} {α:Type} {c:Bp α} {w:World} {B:Nat} {S:Nat -> Prop} {e:TypeId} {xs:List α} {v:Value} {o:Oper} {K:KL}
theorem BR{t x y b off u cur e}(ho:o.op= .store t x y)(hx:Bm K x=some (.pointer (some ⟨b,off,none⟩)))(hy:Bm K y=some u)(hb:BK w b cur e)(hn:Am P t=some 1)(hcl:u.cells= #[u])(h1:u.oneCell'=true)
 (hfit:Nat.ble (off+1) cur.length=true):Fx P N K o w (fun _ w'=>Gi b w w'∧BK w' b (cur.take off++[u]++cur.drop (off+1)) e):=by
 have:=Om (N:=N) ho hx hy hb (by rw [hcl];exact hn) (by rw [hcl];simp [h1]) (by rw [hcl];exact hfit)
 rw [hcl]at this;exact this
theorem AB.baseN{B' hi:Nat}(h:AB c w B (SX B hi v) e xs v)(hB:B'<=B:=by omega):AB c w B' (SX B' hi v) e xs v:=
 (h.base hB).keep (fun _ _=>rfl) (fun k hk=>⟨by have:=hk.1;omega,hk.2⟩) (fun _ _=>rfl)
end
theorem AC{x:Value}{xs:List Value}(h:x.oneCell'=true)(h2:xs.all Value.oneCell'=true):(x::xs).all Value.oneCell'=true:=by simp [List.all_cons,h,h2]
theorem Aw:([]:List Value).all Value.oneCell'=true:=rfl
def Fz:Nat->List (List Value)->List (Nat×List Value)
 |_,[]=>[]
 |k,us::uss=>(k,us)::Fz (k+1) uss
theorem Nj{n len:Nat}:∀(uss:List (List Value)) (k:Nat) (pre post:List Value),pre.length=k*n->post.length=uss.length*n->(∀us∈uss,us.length=n)->len=k+uss.length->
 JS ((List.range len).map fun k=>(k*n,n)) (pre++post) (Fz k uss)=some (pre++BS uss)
 |[],k,pre,post,hp,hq,ha,hl=>by
  have:post=[]:=List.eq_nil_of_length_eq_zero (by simpa using hq)
  subst this;simp [Fz,JS,BS]
 |us::uss,k,pre,post,hp,hq,ha,hl=>by
  have hus:us.length=n:=ha us (List.mem_cons_self ..)
  have hk:((List.range len).map fun k=>(k*n,n))[k]? =some (k*n,n):=by
   have:k<len:=by rw [hl,List.length_cons];omega
   simp [this]
  have hq':post.length=uss.length*n+n:=by rw [hq,List.length_cons,Nat.add_mul];omega
  have e:List.take (k*n) (pre++post)++us++List.drop (k*n+us.length) (pre++post)=(pre++us)++post.drop n:=by
   rw [←hp,List.take_left,List.drop_append,hus,List.drop_eq_nil_of_le (by omega)]
   simp
  have:=Nj (len:=len) uss (k+1) (pre++us) (post.drop n) (by rw [List.length_append,hp,hus,Nat.add_mul];omega) (by rw [List.length_drop,hq'];omega) (fun x hx=>ha x (List.mem_cons_of_mem _ hx)) (by rw [hl,List.length_cons];omega)
  have hb:(Nat.beq us.length n&&Nat.ble (k*n+us.length) (pre++post).length)=true:=by
   rw [Bool.and_eq_true]
   exact⟨by rw [hus];exact Nat.beq_refl n,Nat.ble_eq_true_of_le (by rw [List.length_append,hp,hq',hus];omega)⟩
  rw [Fz,JS]
  simp only [hk]
  rw [hb,e,if_pos rfl,this]
  simp [BS]
theorem MN{n len:Nat}{zc:Array Value}{uss:List (Nat×List Value)}(uls:List (List Value))(h1:uss=Fz 0 uls)(h2:uls.all (fun us=>Nat.beq us.length n)=true)(h3:uls.length=len):
 JS ((List.range len).map fun k=>(k*n,n)) (madeCells zc (len*n)).toList uss=some (BS uls):=by
 subst h1
 have:=Nj (n:=n) (len:=len) uls 0 [] (madeCells zc (len*n)).toList (by simp) (by rw [Array.length_toList,size_madeCells,h3]) (fun us hus=>Nat.eq_of_beq_eq_true (List.all_eq_true.1 h2 us hus)) (by omega)
 simpa using this
section
variable {P:Program} {N:Nat} {ops:Array Oper} {Q:Exit -> Act -> World -> Prop} {n:Nat} {K:KL} {w w0:World} {f:Nat} {listed:Array Bool}
def HB(P:Program)(N:Nat)(ops:Array Oper)(n:Nat)(Q:Exit->Act->World->Prop)(w0:World)(f:Nat)(listed:Array Bool)(K:KL)(w:World)(j:Nat):Prop:=
 HeadInv .any ops n listed->AJ w0 w->∀a,Kn N K a->wpOp P ops Q j (fun a' w'=>(j<n->AJ w0 w')∧CL P .any ops n Q (fun w'=>AJ w0 w') f (listed.setIfInBounds j true) a' w') a w
theorem HL.many{js:List Nat}(hr:Region.ready .any ops listed=js)(hne:js.isEmpty=false)(h:∀j∈js,HB P N ops n Q w0 f listed K w j):HL P N ops n Q w0 (f+1) listed K w:=by
 intro inv hx a hK
 refine⟨fun h0=>(by rw [hr]at h0;subst h0;cases hne),fun j hj=>?_⟩
 rw [hr]at hj
 exact h j hj inv hx a hK
theorem HB.eff{o:Oper}{R:Value->World->Prop}(i:Nat)(hi:ops[i]? =some o)(hin:Nat.blt i n=true)(hr:(Region.ready .any ops listed).contains i=true)(hg:o.guard=none)(hd:Bw N o.dst=true)
 (h:Fx P N K o w R) (k:∀v w',R v w'->AJ w0 w'∧HL P N ops n (noPan Q) w0 f (listed.setIfInBounds i true) (BC K o.dst v) w'):HB P N ops n (noPan Q) w0 f listed K w i:=by
 intro inv hx a hK
 have hin':i<n:=by have h2:=hin;simp [Nat.blt]at h2;omega
 have hri:i∈Region.ready .any ops listed:=by simpa using hr
 unfold wpOp
 simp only [hi]
 rw [if_pos (by simp [Region.wanted,hg])]
 refine .inl (h a hK _ _ fun u w' hR=>?_)
 obtain⟨h1,h2⟩:=k u w' hR
 exact⟨fun _=>h1,h2 (inv.set hri hin') h1 _ (hK.put (Bw.h hd))⟩
end
theorem AB.slb{α:Type}{c:Bp α}{w:World}{B lo hi:Nat}{S:Nat->Prop}{e:TypeId}{xs:List α}{v:Value}[CM c](h:AB c w B S e xs v)(hb:∀g,v.ownBlock=some g->lo<=g∧g<hi):AD c w (Iv lo hi) xs v:=by
 obtain⟨cs,h0,h3⟩:=h
 have h1:=h0
 obtain⟨hl,⟨rfl,hn⟩|⟨g,cap,cur,rfl,_,hh,h5,h6,h7,h8⟩⟩:=h1
 ·have:xs=[]:=List.eq_nil_of_length_eq_zero hn
  subst this;exact AD.nil _ _ _
 ·refine⟨some ⟨g,0,none⟩,cap,rfl,⟨h5,fun h=>by cases h⟩,by simpa [maxLen] using h6,fun hpos=>⟨g,0,rfl,hb g rfl,fun i x hx=>⟨_,CM.any (h3 i x hx),fun j u hu=>?_⟩⟩⟩
  have hjn:j<c.n:=by
   have:=(List.getElem?_eq_some_iff.1 hu).1
   simp [Ae]at this;omega
  rw [Av hjn]at hu
  have:=h0.cells (g:=g) rfl _ _ hu
  rw [CA]at this
  rw [show 0+i*c.n+j=0+(i*c.n+j) by omega];exact⟨this,by simp [World.frozen?,hh]⟩
def Mi{α:Type}(c:Bp α)(w:World)(S:Nat->Prop):List α->List (List Value)->Prop
 |[],[]=>True
 |x::xs,us::uss=>c.rep w S x us∧Mi c w S xs uss
 |_,_=>False
theorem Mi.get{α:Type}{c:Bp α}{w:World}{S:Nat->Prop}:∀{xs:List α} {uss:List (List Value)},Mi c w S xs uss->(∀us∈uss,us.length=c.n)∧xs.length=uss.length∧∀(i:Nat) (x:α),xs[i]? =some x->∃us:List Value,uss[i]? =some us∧c.rep w S x us
 |[],[],_=>⟨by simp,rfl,fun i x h=>by simp at h⟩
 |x::xs,us::uss,⟨h1,h2⟩=>by
  obtain⟨a,b,k⟩:=Mi.get h2
  refine⟨fun q hq=>?_,by simp [b],fun i y hy=>?_⟩
  ·rcases List.mem_cons.1 hq with rfl|hq
   ·exact c.len h1
   ·exact a q hq
  ·cases i with
   |zero=>simp at hy;subst hy;exact⟨us,rfl,h1⟩
   |succ i=>simpa using k i y (by simpa using hy)
theorem Mi.elem{α:Type}{c:Bp α}{w:World}{S:Nat->Prop}{xs:List α}{uss:List (List Value)}(h:Mi c w S xs uss):∀i x,xs[i]? =some x->c.rep w S x (Ae (BS uss) c.n i):=by
 intro i x hx
 obtain⟨a,b,k⟩:=Mi.get h
 obtain⟨us,h1,h2⟩:=k i x hx
 rw [Kj a h1];exact h2
theorem PG{α:Type}{c:Bp α}{w:World}{S:Nat->Prop}{xs:List α}{uss:List (List Value)}{out:List Value}(h:Mi c w S xs uss)(ho:out=BS uss):∀i x,xs[i]? =some x->c.rep w S x (Ae out c.n i):=by
 subst ho;exact h.elem
end Go.Eng
namespace Go.Eng
open Go Go.RowKit Go.ChangeShapes Go.WideShapes Go.ChangeAt
/-! ## Arguments, as they are read -/
def Rd{α:Type}(P:Program)(t:TypeId)(c:Bp α)(R:α->Prop):Prop:=
 ∀(H:Type) (enc:TypeId×Value->H) (w:World) (base:Nat) (spare:Nat->Bool) (held:Bool) (fuel:Nat) (cs:List Value) (x:DataW H×List MemPlace),
  DataW.trod enc P w base spare held fuel t cs=some x->w.noneFrozen x.2->∃y,c.rep w (Iv 0 w.heap.size) y cs∧R y
section
variable {P:Program} {t e:TypeId} {α β:Type} {c:Bp α} {d:Bp β} {R:α -> Prop} {R':β -> Prop}
theorem Rd.weaken(h:Rd P t c R){Q:α->Prop}(hq:∀x,R x->Q x):Rd P t c Q:=fun H enc w b sp hd f cs x hx hz=>by
 obtain⟨y,h1,h2⟩:=h H enc w b sp hd f cs x hx hz
 exact⟨y,h1,hq y h2⟩
theorem Rd.int{k:IntKind}(hu:P.underlying t=some (.int k)):Rd P t (AL k) (fun i=>k.min<=i∧i<=k.max):=fun H enc w b sp hd f cs x hx _=>by
 obtain⟨n,rfl,rfl,hw⟩:=DataW.trod_int hu hx
 simp only [Lit.wf,Bool.and_eq_true,decide_eq_true_eq]at hw
 exact⟨n,rfl,hw⟩
theorem Rd.bool(hu:P.underlying t=some .bool):Rd P t BH (fun _=>True):=fun H enc w b sp hd f cs x hx _=>by
 obtain⟨n,rfl,rfl⟩:=DataW.trod_bool hu hx
 exact⟨n,rfl,trivial⟩
theorem Rd.str(hu:P.underlying t=some .string):Rd P t At (fun s=>s.size<=maxLen):=fun H enc w b sp hd f cs x hx _=>by
 obtain⟨s,rfl,rfl,h⟩:=DataW.trod_string hu hx
 exact⟨s,rfl,h⟩
theorem Tc{p:Nat->α->Prop}:∀(n:Nat),(∀i,i<n->∃y,p i y)->∃ys:List α,ys.length=n∧∀i y,ys[i]? =some y->p i y
 |0,_=>⟨[],rfl,fun i y h=>by simp at h⟩
 |n+1,h=>by
  obtain⟨ys,hl,hy⟩:=Tc n (fun i hi=>h i (by omega))
  obtain⟨y,hn⟩:=h n (by omega)
  refine⟨ys++[y],by simp [hl],fun i z hz=>?_⟩
  by_cases hi:i<n
  ·rw [List.getElem?_append_left (by omega)]at hz;exact hy i z hz
  ·rw [List.getElem?_append_right (by omega),hl]at hz
   by_cases h0:i-n=0
   ·rw [h0]at hz
    simp at hz
    obtain rfl:i=n:=by omega
    subst hz;exact hn
   ·have:=(List.getElem?_eq_some_iff.1 hz).1
    simp at this;omega
theorem Rd.slice(hu:P.underlying t=some (.slice e))(hc:P.cellsOf e=c.n)(hp:Nat.blt 0 c.n=true)(h:Rd P e c R):Rd P t (Ci c) (fun xs=>xs.length<=9223372036854775807∧∀x∈xs,R x):=fun H enc w b sp hd f cs x hx hz=>by
 have hp:0<c.n:=by have h:=hp;simp [Nat.blt]at h;omega
 rcases Go.Deep.open_slice hu hx with ⟨rfl,rfl⟩|⟨a,len,cap,m,n,D,Pl,rfl,hb,hl,hm,hmm,rfl,hel⟩
 ·exact⟨[],⟨_,rfl,AD.nil _ _ _⟩,by simp,by simp⟩
 have hle:len<=m:=by rw [hmm];split<;>omega
 obtain⟨ys,hyl,hy⟩:=Tc (α:=α) (p:=fun i y=>∃cs',w.cells? b (a.add (i*P.cellsOf e)) (P.cellsOf e)=some cs'∧c.rep w (Iv 0 w.heap.size) y cs'∧R y) len (fun i hi=>by
  obtain⟨cs',h1,h2⟩:=hel i (by omega)
  obtain⟨y,h3,h4⟩:=h H enc w b sp hd n cs' _ h2 (fun b' o' hm=>hz b' o' (List.mem_append_right _ (List.mem_flatMap.2 ⟨i,List.mem_range.2 (by omega),hm⟩)))
  exact⟨y,cs',h1,h3,h4⟩)
 refine⟨ys,⟨_,rfl,some a,cap,by rw [hyl],⟨by omega,fun h=>by cases h⟩,by unfold maxLen at hm;omega,fun hpos=>?_⟩,by unfold maxLen at hm;omega,fun x hx=>?_⟩
 ·rw [hc]at hy
  have h0:∃cs',w.cells? b (a.add (0*c.n)) c.n=some cs':=by
   obtain⟨y,hy0⟩:∃y,ys[0]? =some y:=⟨_,List.getElem?_eq_getElem hpos⟩
   obtain⟨cs',h1,_⟩:=hy 0 y hy0
   exact⟨cs',h1⟩
  obtain⟨cs',h1⟩:=h0
  obtain⟨_,h2,h3⟩:=World.cells?_some h1
  have h4:=h3 0 hp
  have e0:(a.add (0*c.n)).add 0=a:=by simp [Addr.add]
  rw [e0,List.getElem?_eq_getElem (by omega)]at h4
  obtain⟨blk,off,spot⟩:=a
  have hblk:blk<w.heap.size∧spot=none:=by
   unfold World.cell? at h4
   split at h4
   ·rename_i h5
    refine⟨(Array.getElem?_eq_some_iff.1 h5).1,?_⟩
    cases spot with
    |none=>rfl
    |some s=>simp at h4
   ·cases h4
  obtain⟨hblk,rfl⟩:=hblk
  refine⟨blk,off,rfl,⟨Nat.zero_le _,hblk⟩,fun i x hx=>?_⟩
  obtain⟨cs',h1,h2,_⟩:=hy i x hx
  refine⟨cs',h2,fun j u hu=>?_⟩
  obtain⟨_,h3,h4⟩:=World.cells?_some h1
  have hj:=(List.getElem?_eq_some_iff.1 hu).1
  have:=h4 j (by omega)
  rw [CA,CA]at this
  refine⟨by rw [this,hu],hz _ _ (List.mem_append_left _ ?_)⟩
  unfold MemPlace.row
  refine List.mem_map.2 ⟨i*c.n+j,List.mem_range.2 ?_,by simp [Nat.add_assoc]⟩
  have hi2:i<m:=by have:=(List.getElem?_eq_some_iff.1 hx).1;omega
  have:(i+1)*c.n<=m*c.n:=Nat.mul_le_mul_right _ hi2
  rw [Nat.add_mul]at this
  rw [hc];omega
 ·obtain⟨i,hi⟩:=List.getElem?_of_mem hx
  obtain⟨_,_,_,h3⟩:=hy i x hi
  exact h3
def Fr{α:Type}(P:Program)(fs:List Field)(off:Nat)(c:Bp α)(R:α->Prop):Prop:=
 ∀(H:Type) (enc:TypeId×Value->H) (w:World) (base:Nat) (spare:Nat->Bool) (held:Bool) (fuel:Nat) (cs:List Value),
  (∀f∈fs,∃x,DataW.trod enc P w base spare held fuel f.type ((cs.drop f.offset).take (P.cellsOf f.type))=some x∧w.noneFrozen x.2)->∃y,c.rep w (Iv 0 w.heap.size) y ((cs.drop off).take c.n)∧R y
theorem Fr.one{f:Field}{off:Nat}(h:Rd P f.type c R)(ho:f.offset=off)(hc:P.cellsOf f.type=c.n):Fr P [f] off c R:=fun H enc w b sp hd fu cs hx=>by
 obtain⟨x,hx,hz⟩:=hx f (List.mem_singleton.2 rfl)
 obtain⟨y,h1,h2⟩:=h H enc w b sp hd fu _ x hx hz
 rw [ho,hc]at h1
 exact⟨y,h1,h2⟩
theorem Fr.cons{f:Field}{fs:List Field}{off:Nat}(h:Rd P f.type c R)(ho:f.offset=off)(hc:P.cellsOf f.type=c.n)(h2:Fr P fs (off+c.n) d R'):Fr P (f::fs) off (Ai c d) (fun x=>R x.1∧R' x.2):=fun H enc w b sp hd fu cs hx=>by
 obtain⟨x,hx1,hz1⟩:=hx f (List.mem_cons_self ..)
 obtain⟨y,h3,h4⟩:=h H enc w b sp hd fu _ x hx1 hz1
 obtain⟨z,h5,h6⟩:=h2 H enc w b sp hd fu cs (fun g hg=>hx g (List.mem_cons_of_mem _ hg))
 rw [ho,hc]at h3
 refine⟨(y,z),⟨_,_,?_,h3,h5⟩,h4,h6⟩
 show(cs.drop off).take (c.n+d.n)=_
 rw [List.take_add,List.drop_drop]
theorem Rd.map(h:Rd P t c R)(f:β->α)(g:α->β)(hfg:∀y,f (g y)=y):Rd P t (Bn f c) (fun x=>R (f x)):=fun H enc w b sp hd fu cs x hx hz=>by
 obtain⟨y,h1,h2⟩:=h H enc w b sp hd fu cs x hx hz
 exact⟨g y,by show c.rep w _ (f (g y)) cs;rw [hfg];exact h1,by show R (f (g y));rw [hfg];exact h2⟩
theorem Rd.struct{fs:List Field}(hu:P.underlying t=some (.struct fs.toArray))(hn:P.cellsOf t=c.n)(h:Fr P fs 0 c R):Rd P t c R:=fun H enc w b sp hd fu cs x hx hz=>by
 obtain⟨xs,n,rfl,rfl,hl,hlen,hf⟩:=DataW.trod_struct hu hx
 obtain⟨y,h1,h2⟩:=h H enc w b sp hd n cs (fun f hf'=>by
  obtain⟨i,hi⟩:=List.getElem?_of_mem hf'
  have:=hf i f (by simpa using hi)
  rw [this]
  have hi':=(List.getElem?_eq_some_iff.1 hi).1
  have hix:i<xs.length:=by rw [hlen];simpa using hi'
  exact⟨_,List.getElem?_eq_getElem hix,fun b' o' hm=>hz b' o' (List.mem_flatMap.2 ⟨_,List.getElem_mem hix,hm⟩)⟩)
 rw [List.drop_zero,List.take_of_length_le (by omega)]at h1
 exact⟨y,h1,h2⟩
end
/-! ## A statement whose answer is true -/
section
variable {H:Type} {enc:TypeId × Value -> H} {P:Program}
theorem Kk(hl:laidOutB P=true){W W':World}(hb:Below W.heap.size W W'):∀{ts:List TypeId} {vs:List Value} {ds:List (DataW H)} {ps:List MemPlace},(∀t∈ts,P.readableRec t=true∧t<P.types.size)->
 DataW.TrodAll enc P W 0 (fun _=>true) true ts vs ds ps->(∀x∈ps,x.block<W.heap.size)->DataW.TrodAll enc P W' 0 (fun b=>decide (b<W.heap.size)) true ts vs ds ps
 |[],[],[],ps,_,h,_=>h
 |t::ts,v::vs,d::ds,ps,hr,h,hlt=>by
  obtain⟨p,q,h1,h2,rfl⟩:=h
  obtain⟨h3,h4⟩:=hr t (List.mem_cons_self ..)
  exact⟨p,q,Below.trod hl h3 h4 h1 hb (fun x hx=>hlt x (List.mem_append_left _ hx)),Kk hl hb (fun t ht=>hr t (List.mem_cons_of_mem _ ht)) h2 (fun x hx=>hlt x (List.mem_append_right _ hx)),rfl⟩
theorem Ma{w:World}{base:Nat}{sp:Nat->Bool}{hd:Bool}:∀{ts:List TypeId} {vs:List Value} {ds:List (DataW H)} {ps:List MemPlace},DataW.TrodAll enc P w base sp hd ts vs ds ps->ds.length=ts.length
 |[],[],[],_,_=>rfl
 |t::ts,v::vs,d::ds,ps,⟨p,q,_,h,_⟩=>by simp [Ma h]
end
end Go.Eng
namespace Go.Eng
open Go Go.RowKit
/-! ## RF laws on what the walks compute -/
theorem Aa{x:Int}(h1:-9223372036854775808<=x)(h2:x<=9223372036854775807):IntKind.wrap IntKind.i64 x=x:=by
 simp [IntKind.wrap,IntKind.bits,IntKind.signed]
 split<;>omega
theorem EH{α:Type}(xs:List α)(i:Nat):AE xs (i:Int)=xs[i]?:=by simp [AE]
theorem IW{α:Type}{xs:List α}{i:Int}(h0:0<=i)(h1:i<xs.length):∃x,AE xs i=some x∧x∈xs:=by
 obtain⟨n,rfl⟩:=Int.eq_ofNat_of_zero_le h0
 have hn:n<xs.length:=by omega
 exact⟨xs[n],by rw [EH,List.getElem?_eq_getElem hn],List.getElem_mem hn⟩
theorem Ds{n b:Nat}(h:n<=1048576)(hb:b<=268435456):MY (n:Int) b=some n:=by
 unfold MY
 have h2:n*b<=1048576*268435456:=Nat.mul_le_mul h hb
 have h3:(n:Int)*(b:Int)<=281474976710656:=by
  have:((n*b:Nat):Int)<=281474976710656:=by omega
  simpa using this
 rw [if_pos ⟨by omega,h3,by omega⟩]
 simp
def Rn{α β R:Type}(a:List α)(f:α->Option β)(k:Int->List β->Option R):Nat->Int->List β->Option R
 |0=>fun _ _=>none
 |m+1=>fun i l=>bif decide (i<(a.length:Int))then(Option.bind (AE a i) fun x=>Option.bind (f x) fun r=>Option.bind (AE l i) fun _=>Rn a f k m (IntKind.wrap IntKind.i64 (i+1)) (l.set i.toNat r))else k i l
theorem Is{α β R:Type}(a:List α)(f:α->Option β)(k:Int->List β->Option R)(m:Nat)(i:Int)(l:List β):Rn a f k (m+1) i l=bif decide (i<(a.length:Int))then(Option.bind (AE a i) fun x=>Option.bind (f x) fun r=>Option.bind (AE l i) fun _=>Rn a f k m (IntKind.wrap IntKind.i64 (i+1)) (l.set i.toNat r))else k i l:=rfl
theorem WU{α β R:Type}{a:List α}{f:α->Option β}{g:α->β}{k:Int->List β->Option R}(hf:∀x∈a,f x=some (g x))(ha:a.length<=1048576):∀(m i:Nat) (l:List β),i<=a.length->a.length-i<m->l.length=a.length->l.take i=(a.map g).take i->
 Rn a f k m (i:Int) l=k (a.length:Int) (a.map g)
 |0,i,l,_,h,_,_=>by omega
 |m+1,i,l,hi,hm,hl,ht=>by
  rw [Is]
  by_cases h:i<a.length
  ·have hd:decide ((i:Int)<(a.length:Int))=true:=decide_eq_true (by omega)
   have hx:a[i]? =some a[i]:=List.getElem?_eq_getElem h
   have hy:l[i]? =some (l[i]'(by omega)):=List.getElem?_eq_getElem _
   rw [hd,cond_true,EH,EH,hx,Option.bind_some,hf _ (List.getElem_mem h),Option.bind_some,hy,Option.bind_some,Aa (by omega) (by omega)]
   have:=WU (k:=k) hf ha m (i+1) (l.set i (g a[i])) (by omega) (by omega) (by simpa using hl) (by
    apply List.ext_getElem?
    intro j
    rw [List.getElem?_take,List.getElem?_take,List.getElem?_set]
    by_cases hj:j<i+1
    ·rw [if_pos hj,if_pos hj]
     by_cases hij:i=j
     ·subst hij
      rw [if_pos rfl,if_pos (by omega),List.getElem?_map,hx];rfl
     ·rw [if_neg hij]
      have e:=congrArg (fun q:List β=>q[j]?) ht
      simp only [List.getElem?_take]at e
      rwa [if_pos (by omega),if_pos (by omega)]at e
    ·rw [if_neg hj,if_neg hj])
   simpa using this
  ·have hd:decide ((i:Int)<(a.length:Int))=false:=decide_eq_false (by omega)
   have he:i=a.length:=by omega
   rw [hd,cond_false]
   subst he
   have:l=a.map g:=by
    rw [List.take_of_length_le (by omega),List.take_of_length_le (by simp)]at ht
    exact ht
   rw [this]
def Rk{α β R:Type}(a:List α)(b:List β)(f:α->β->Option Bool)(no:Option R)(k:Int->Option R):Nat->Int->Option R
 |0=>fun _=>none
 |m+1=>fun i=>bif decide (i<(a.length:Int))then(Option.bind (AE a i) fun x=>Option.bind (AE b i) fun y=>Option.bind (f x y) fun r=>bif (!r)then no else Rk a b f no k m (IntKind.wrap IntKind.i64 (i+1)))else k i
theorem HX{α β R:Type}(a:List α)(b:List β)(f:α->β->Option Bool)(no:Option R)(k:Int->Option R)(m:Nat)(i:Int):Rk a b f no k (m+1) i=bif decide (i<(a.length:Int))then(Option.bind (AE a i) fun x=>Option.bind (AE b i) fun y=>Option.bind (f x y) fun r=>bif (!r)then no else Rk a b f no k m (IntKind.wrap IntKind.i64 (i+1)))else k i:=rfl
theorem DR{α R:Type}{a:List α}{f:α->α->Option Bool}{no:Option R}{k:Int->Option R}(hf:∀x∈a,f x x=some true)(ha:a.length<=1048576):∀(m i:Nat),i<=a.length->a.length-i<m->Rk a a f no k m (i:Int)=k (a.length:Int)
 |0,i,_,h=>by omega
 |m+1,i,hi,hm=>by
  rw [HX]
  by_cases h:i<a.length
  ·have hd:decide ((i:Int)<(a.length:Int))=true:=decide_eq_true (by omega)
   have hx:a[i]? =some a[i]:=List.getElem?_eq_getElem h
   rw [hd,cond_true,EH,hx,Option.bind_some,Option.bind_some,hf _ (List.getElem_mem h),Option.bind_some,Bool.not_true,cond_false,Aa (by omega) (by omega)]
   have:=DR (no:=no) (k:=k) hf ha m (i+1) (by omega) (by omega)
   simpa using this
  ·have hd:decide ((i:Int)<(a.length:Int))=false:=decide_eq_false (by omega)
   have he:i=a.length:=by omega
   rw [hd,cond_false,he]
theorem GN{α:Type}{a:List α}{f:α->Option α}{z:α}{n:Nat}(hf:∀x∈a,f x=some x)(ha:a.length<=1048576)(hn:1048577<=n):Rn a f (fun _ l=>some l) n 0 (List.replicate a.length z)=some a:=by
 have:=WU (f:=f) (g:=id) (k:=fun(_:Int) (l:List α)=>some l) hf ha n 0 (List.replicate a.length z) (by omega) (by omega) (by simp) (by simp)
 simpa using this
theorem rF{cs:Array Value}{l:List Value}(h:cs.toList=l):cs=l.toArray:=by rw [←h]
end Go.Eng
namespace Go.Eng
open Go Go.RowKit
/-! ## Calls that write what they are handed -/
def pB(b:Nat):Nat->Prop:=fun k=>k=b
def pO(v:Value):Nat->Prop:=fun k=>v.ownBlock=some k
def Ve(p q:Nat->Prop):Nat->Prop:=fun k=>p k∨q k
theorem Dc{b:Nat}{Q:Nat->Prop}(h:Q b:=by omega):∀k,pB b k->Q k:=fun k e=>by have e:k=b:=e;rw [e];exact h
theorem BZ{v:Value}{Q:Nat->Prop}(h:∀g,v.ownBlock=some g->Q g):∀k,pO v k->Q k:=h
theorem EV{p q:Nat->Prop}{Q:Nat->Prop}(h1:∀k,p k->Q k)(h2:∀k,q k->Q k):∀k,Ve p q k->Q k:=fun k h=>h.elim (h1 k) (h2 k)
structure CS(p:Nat->Prop)(w w':World):Prop where
 os:w'.os=w.os
 tape:w'.tape=w.tape
 output:w'.output=w.output
 size:w.heap.size<=w'.heap.size
 block:∀k,k<w.heap.size->¬p k->w'.heap[k]? =w.heap[k]?
section
variable {p q:Nat -> Prop} {w a c:World}
theorem CS.refl(p:Nat->Prop)(w:World):CS p w w:=⟨rfl,rfl,rfl,Nat.le_refl _,fun _ _ _=>rfl⟩
theorem CS.ext(h:CS p w a)(he:AJ a c):CS p w c:=
 ⟨he.os.trans h.os,he.tape.trans h.tape,he.output.trans h.output,Nat.le_trans h.size he.size,fun k hk hp=>(he.block k (Nat.lt_of_lt_of_le hk h.size)).trans (h.block k hk hp)⟩
theorem CS.upd{b:Nat}(h:CS p w a)(hu:Gi b a c)(hb:p b∨w.heap.size<=b):CS p w c:=
 ⟨hu.os.trans h.os,hu.tape.trans h.tape,hu.output.trans h.output,by rw [hu.size];exact h.size,fun k hk hp=>(hu.block k (fun e=>by subst e;exact hb.elim hp (fun h=>by omega))).trans (h.block k hk hp)⟩
theorem CS.grow{v v':Value}(h:CS p w a)(hg:BN a c v v')(hb:∀g,v.ownBlock=some g->p g∨w.heap.size<=g):CS p w c:=
 ⟨hg.1.os.trans h.os,hg.1.tape.trans h.tape,hg.1.output.trans h.output,Nat.le_trans h.size hg.1.size,fun k hk hp=>(hg.1.block k (Nat.lt_of_lt_of_le hk h.size) (fun e=>(hb k e.symm).elim hp (fun h=>by omega))).trans (h.block k hk hp)⟩
theorem CS.but(h:CS p w a)(hq:CS q a c)(hb:∀k,q k->p k∨w.heap.size<=k):CS p w c:=
 ⟨hq.os.trans h.os,hq.tape.trans h.tape,hq.output.trans h.output,Nat.le_trans h.size hq.size,fun k hk hp=>(hq.block k (Nat.lt_of_lt_of_le hk h.size) (fun e=>(hb k e).elim hp (fun h=>by omega))).trans (h.block k hk hp)⟩
theorem CS.below{lo:Nat}(h:CS p w a)(hp:∀k,p k->lo<=k)(hl:lo<=w.heap.size):Below lo w a:=
 ⟨h.os,h.tape,h.output,h.size,fun k hk=>h.block k (by omega) (fun e=>by have:=hp k e;omega)⟩
theorem BK.but{b:Nat}{us:List Value}{t:TypeId}(hb:BK w b us t)(h:CS p w a)(hne:∀k,p k->k≠b):BK a b us t:=by
 have h1:=h.block b hb.lt (fun e=>hne b e rfl)
 unfold BK at hb ⊢;rw [h1,hb]
theorem AD.but{α:Type}{d:Bp α}{lo hi:Nat}{xs:List α}{v:Value}(hs:AD d w (Iv lo hi) xs v)(h:CS p w a)(hne:∀k,p k->k<lo∨hi<=k)(hle:hi<=w.heap.size):AD d a (Iv lo hi) xs v:=
 hs.mono (fun _ h=>h) (fun k hk=>h.block k (by have:=hk.2;omega) (fun e=>by have:=hne k e;have:=hk.1;have:=hk.2;omega))
theorem AB.butF{α:Type}{d:Bp α}[CM d]{B:Nat}{e:TypeId}{xs:List α}{v:Value}(ho:AB d w B (Iv 0 0) e xs v)(h:CS p w a)(hne:∀k,p k->∀g,v.ownBlock=some g->k≠g):AB d a B (Iv 0 0) e xs v:=
 ho.keep (fun g hg=>h.block g (ho.blk g hg).2 (fun e=>hne g e g hg rfl)) (fun _ h=>h) (fun k h=>absurd h.2 (Nat.not_lt_zero k))
end
section
variable {P:Program} {N:Nat} {o:Oper} {K:KL} {w:World}
theorem Le{i:Nat}{v:Value}{us:List Value}{ps:List (Nat×Value)}{uss:List (Nat×List Value)}(h:v.cells.toList=us)(t:ps.map (fun p=>(p.1,p.2.cells.toList))=uss):((i,v)::ps).map (fun p=>(p.1,p.2.cells.toList))=(i,us)::uss:=by
 rw [List.map_cons,t,h]
theorem AD.cl{α:Type}{c:Bp α}{w:World}{S:Nat->Prop}{xs:List α}{v:Value}(h:AD c w S xs v):v.cells.toList=[v]:=by rw [AD.cells h]
/-! ## Functions as values, shifts, bits -/
theorem EO{f first captured cs}(ho:o.op= .makeFunc (.func f) first captured)(h1:NC K first.toList=some [])(h2:NC K captured.toList=some cs):Df P N K o w (.func (.func f) #[] cs.toArray):=by
 intro a hK w' _
 have e1:first.map a.eval= #[]:=by
  have:=hK.evs h1
  apply Array.ext'
  simpa using this
 have e2:captured.map a.eval=cs.toArray:=by
  have:=hK.evs h2
  apply Array.ext'
  simpa using this
 simp [execOp,ho,Instr.makeFunc,e1,e2]
theorem Dn{x f args tys vs cs}{R:Value->World->Prop}(ho:o.op= .call { callee:=.value x,args:=args,argTypes:=tys })(hf:AZ P f=true)(hx:Bm K x=some (.func (.func f) #[] cs))
 (ha:NC K args.toList=some vs) (hc:Calls P f (vs++cs.toList).toArray w (DA R)):Fx P N K o w R:=by
 intro a hK Kt Q hk
 have he:args.map a.eval=vs.toArray:=by
  have:=hK.evs ha
  apply Array.ext'
  simpa using this
 have hr:(execOp a.eval o).run P w= .ok (.enter f (vs++cs.toList).toArray) w:=by
  have e:vs.toArray++cs=(vs++cs.toList).toArray:=by simp
  simp [execOp,ho,resolve,hK.ev hx,Deferred.ofValue,invoke,he,e,NQ hf]
 unfold Oper.wp
 rw [hr]
 exact hc.mono fun e w' ⟨v,he,hR⟩=>by subst he;exact hk _ _ hR
def KY(k:IntKind)(m n:Int):Int:=m.fdiv (2^(min n.toNat k.bits))
def SN(k:IntKind)(m n:Int):Int:=k.wrap (m*2^(min n.toNat k.bits))
theorem Tz{t x y u k k2 m n}(ho:o.op= .binOp .shr t x y u)(hx:Bm K x=some (.int k m))(hy:Bm K y=some (.int k2 n))(h0:¬n<0):Df P N K o w (.int k (KY k m n)):=by
 intro a hK w' _
 simp [execOp,ho,hK.ev hx,hK.ev hy,eqGuard,binOp,Op.shift,h0,KY]
theorem TG{t x y u k k2 m n}(ho:o.op= .binOp .shl t x y u)(hx:Bm K x=some (.int k m))(hy:Bm K y=some (.int k2 n))(h0:¬n<0):Df P N K o w (.int k (SN k m n)):=by
 intro a hK w' _
 simp [execOp,ho,hK.ev hx,hK.ev hy,eqGuard,binOp,Op.shift,h0,SN]
theorem uS{b:Int}{α:Type}{y:Option α}{r:α}(h:(bif decide (b<0)then none else y)=some r):¬b<0∧y=some r:=by
 by_cases hb:b<0
 ·simp [hb]at h
 ·exact⟨hb,by simpa [hb] using h⟩
end
end Go.Eng
namespace Go.Eng
open Go Go.RowKit
section
variable {P:Program} {N:Nat} {o:Oper} {K:KL} {w:World}
theorem Pu{t x y u e}(ho:o.op= .binOp .eql t x y u)(hu:P.underlying t=some (.slice e))(hx:Bm K x=some (.slice none 0 0))(hy:Bm K y=some (.slice none 0 0)):Df P N K o w (.bool true):=by
 intro a hK w' _
 simp [execOp,ho,hK.ev hx,hK.ev hy,eqGuard,binOp,run_equal_slice_nil,hu]
theorem Rg{t x y u e p n cap}(ho:o.op= .binOp .eql t x y u)(hu:P.underlying t=some (.slice e))(hx:Bm K x=some (.slice (some p) n cap))(hy:Bm K y=some (.slice none 0 0)):Df P N K o w (.bool false):=by
 intro a hK w' _
 simp [execOp,ho,hK.ev hx,hK.ev hy,eqGuard,binOp,run_equal_slice_nil,hu]
theorem AD.nil_or{α:Type}{c:Bp α}{S:Nat->Prop}{xs:List α}{v:Value}(h:AD c w S xs v):(v= .slice none 0 0∧xs=[])∨∃p n cap,v= .slice (some p) n cap:=by
 obtain⟨a,cap,rfl,⟨h2,h3⟩,_,_⟩:=h
 cases a with
 |none=>
  have:=h3 rfl
  have hx:xs=[]:=List.eq_nil_of_length_eq_zero (by omega)
  subst hx;subst this;exact .inl ⟨rfl,rfl⟩
 |some p=>exact .inr ⟨p,_,cap,rfl⟩
variable {Q:Exit -> Act -> World -> Prop}
theorem WC.cond_t{c:Operand}{x y:Code}(hc:Bm K c=some (.bool true))(ht:WC P N x Q K w):WC P N (.cond c x y) Q K w:=WC.cond hc (fun _=>ht) (fun h=>absurd h (by decide))
theorem WC.cond_f{c:Operand}{x y:Code}(hc:Bm K c=some (.bool false))(hf:WC P N y Q K w):WC P N (.cond c x y) Q K w:=WC.cond hc (fun h=>absurd h (by decide)) (fun _=>hf)
/-! ## A drawn region that writes what was there: the blocks of p -/
def YA(P:Program)(N:Nat)(K:KL)(o:Oper)(Ψ:Value->Prop):Prop:=∃v,(∀w,Df P N K o w v)∧Ψ v
theorem Hy{α:Type}{c:Bp α}{xs:List α}{v:Value}{B:Nat}{S:Nat->Prop}{e:TypeId}{y:α}{t x i k m}(ho:o.op= .indexAddr t x i)(hu:P.underlying t=some (.slice e))(hc:Am P e=some c.n)(hx:Bm K x=some v)
 (hi2:Bm K i=some (.int k m)) (hs:AB c w B S e xs v) (hg:AE xs m=some y):
 YA P N K o (fun u=>∃g us,u= .pointer (some ⟨g,0+m.toNat*c.n,none⟩)∧v.ownBlock=some g∧c.rep w S y us∧AM w g (0+m.toNat*c.n) us):=by
 obtain⟨u,h1,g,us,rfl,h2,h3,h4⟩:=LY (N:=N) ho hu hc hx hi2 hs hg
 obtain⟨g0,g1,g2⟩:=Fe hg
 obtain⟨cs,⟨hl,⟨rfl,_⟩|⟨g',cap,cur,rfl,_⟩⟩,_⟩:=hs
 ·cases h2
 ·have h2:g'=g:=Option.some.inj h2
  subst h2
  exact⟨_,fun w=>by have:=FQ (N:=N) (w:=w) ho hu hc hx hi2 g0 g1;simpa [CA] using this,g',us,rfl,rfl,h3,h4⟩
end
section
variable {P:Program} {N:Nat} {ops:Array Oper} {Q:Exit -> Act -> World -> Prop} {n:Nat} {K:KL} {w w0:World} {f:Nat} {listed:Array Bool} {p:Nat -> Prop}
def Iw(P:Program)(N:Nat)(ops:Array Oper)(n:Nat)(Q:Exit->Act->World->Prop)(p:Nat->Prop)(w0:World)(f:Nat)(listed:Array Bool)(K:KL)(w:World):Prop:=
 HeadInv .any ops n listed->CS p w0 w->∀a,Kn N K a->CL P .any ops n Q (fun w'=>CS p w0 w') f listed a w
theorem Iw.yld{o:Oper}{v:Value}(i:Nat)(hh:DB ops n=true)(hi:ops[i]? =some o)(hc:(Nat.blt i n&&Region.free .any ops listed i&&(Region.ready .any ops listed).contains i)=true)(hg:o.guard=none)(hd:Bw N o.dst=true)
 (h:∀wx,CS p w0 wx->Df P N K o wx v) (k:Iw P N ops n (noPan Q) p w0 f (listed.setIfInBounds i true) (BC K o.dst v) w):Iw P N ops n (noPan Q) p w0 (f+1) listed K w:=by
 intro inv hx a hK
 obtain⟨hs,hn,ht⟩:=DB.spec hh
 simp only [Bool.and_eq_true]at hc
 have hin:i<n:=by have h2:=hc.1.1;simp [Nat.blt]at h2;omega
 have hr:i∈Region.ready .any ops listed:=by simpa using hc.2
 refine CL.first hi hin hn (Region.noSelect_spec hs) ht (fun c a w h=>h.elim) f listed a w inv (Region.free_spec hi hc.1.2) hr ?_ hx (k (inv.set hr hin) hx _ (hK.put (Bw.h hd)))
 exact .inl ⟨by simp [Region.wanted,hg],fun w' hw'=>h w' hw' a hK w' (AJ.refl w')⟩
theorem Iw.ya{o:Oper}{Ψ:Value->Prop}(i:Nat)(hh:DB ops n=true)(hi:ops[i]? =some o)(hc:(Nat.blt i n&&Region.free .any ops listed i&&(Region.ready .any ops listed).contains i)=true)(hg:o.guard=none)(hd:Bw N o.dst=true)
 (h:YA P N K o Ψ) (k:∀v,Ψ v->Iw P N ops n (noPan Q) p w0 f (listed.setIfInBounds i true) (BC K o.dst v) w):Iw P N ops n (noPan Q) p w0 (f+1) listed K w:=by
 obtain⟨v,h1,h2⟩:=h;exact Iw.yld i hh hi hc hg hd (fun wx _=>h1 wx) (k v h2)
theorem Iw.eff{o:Oper}{R:Value->World->Prop}(i:Nat)(hi:ops[i]? =some o)(hin:Nat.blt i n=true)(hr:Region.ready .any ops listed=[i])(hg:o.guard=none)(hd:Bw N o.dst=true)
 (h:Fx P N K o w R) (k:∀v w',R v w'->CS p w0 w'∧Iw P N ops n (noPan Q) p w0 f (listed.setIfInBounds i true) (BC K o.dst v) w'):Iw P N ops n (noPan Q) p w0 (f+1) listed K w:=by
 intro inv hx a hK
 have hin':i<n:=by have h2:=hin;simp [Nat.blt]at h2;omega
 have hri:i∈Region.ready .any ops listed:=by rw [hr];simp
 refine⟨fun h0=>(by rw [h0]at hr;cases hr),fun j hj=>?_⟩
 rw [hr]at hj
 have hji:j=i:=by simpa using hj
 subst hji
 unfold wpOp
 simp only [hi]
 rw [if_pos (by simp [Region.wanted,hg])]
 refine .inl (h a hK _ _ fun u w' hR=>?_)
 obtain⟨h1,h2⟩:=k u w' hR
 exact⟨fun _=>h1,h2 (inv.set hri hin') h1 _ (hK.put (Bw.h hd))⟩
theorem Iw.tail{l:List Oper}(hops:ops=l.toArray)(hseq:Region.seqB .any ops (l.drop n).length n listed=true)(hf:f=(l.drop n).length)(k:TL P N ops (noPan Q) (l.drop n) K w):Iw P N ops n (noPan Q) p w0 f listed K w:=by
 intro inv hx a hK
 rw [hf]
 exact CL.seq (l.drop n) n listed a w (fun j=>by rw [hops,List.getElem?_drop];simp) (Nat.le_refl n) hseq (k a hK)
theorem Iw.done(hr:Region.ready .any ops listed=[])(h:NX N Q .normal K w):Iw P N ops n (noPan Q) p w0 f listed K w:=by
 intro inv hx a hK
 cases f with
 |zero=>exact⟨hr,h a hK⟩
 |succ f=>exact⟨fun _=>h a hK,by rw [hr];simp⟩
theorem WC.heldG{id:Nat}{l:List Oper}(n:Nat)(hm:P.follows .mixedOrders=true)
 (h:∀w',AJ w w'->Iw P N l.toArray n (noPan Q) p w' l.length (Array.replicate l.length false) K w'):WC P N (.region id l.toArray true) Q K w:=by
 intro a hK
 have inv0:HeadInv .any l.toArray n (Array.replicate l.length false):=
  ⟨by simp,fun j oj _ hl=>(by rw [getD_replicate_false]at hl;cases hl),fun t _ ht=>getD_in (by simpa using ht) (getD_replicate_false _ _)⟩
 refine Code.wp_mono ?_ (wp_region_any hm (CL.any _ _ _ _ (h w.drew (AJ.drew w) (by simpa using inv0) (CS.refl p _) a hK)))
 intro e a w hq
 cases e<;>first|exact hq|exact hq.elim
theorem AM.but{b off:Nat}{us:List Value}(h:AM w b off us)(hb:CS p w w0)(hne:∀k,p k->k≠b)(hlt:b<w.heap.size):AM w0 b off us:=h.block (hb.block b hlt (fun e=>hne b e rfl))
end
/-! ## What is left out within what is left out -/
section
variable {P:Program} {N:Nat} {ops:Array Oper} {Q:Exit -> Act -> World -> Prop} {K:KL} {w:World} {o:Oper} {rest:List Oper} {Qa:Act -> Prop}
end
end Go.Eng
namespace Go.Eng
open Go Go.RowKit
/-! ## RF laws on the statements' marks -/
theorem Mf{i N:Nat}(h:i<N):decide ((i:Int)<(N:Int))=true:=decide_eq_true (by omega)
theorem Ml(N:Nat):decide ((N:Int)<(N:Int))=false:=decide_eq_false (by omega)
theorem VK{i:Nat}(h:i<4611686018427387904):IntKind.wrap IntKind.i64 ((i:Int)+1)=((i+1:Nat):Int):=by rw [Aa (by omega) (by omega)];simp
theorem Dh{α:Type}{xs:List α}{i:Nat}(h:i<xs.length):AE xs (i:Int)=some xs[i]:=by rw [EH];exact List.getElem?_eq_getElem h
theorem MM{α:Type}{xs:List α}{i:Nat}{x:α}(h:i<xs.length):AE (xs.set i x) (i:Int)=some x:=by rw [EH];simp [h]
theorem Tl{α:Type}{LM:Nat->Int->Int->List α->Option (Int×List α)}(c:Nat)(g:Int->α->α)(hc:c<=64)
 (hs:∀(m:Nat) (k:Int) (i:Nat) (l:List α) (hi:i<l.length),i<4611686018427387904->0<=k->k<=2305843009213693951->LM (m+1) k (i:Int) l=LM m (k+c) ((i+1:Nat):Int) (l.set i (g k l[i])))
 (he:∀(m:Nat) (k:Int) (l:List α),LM (m+1) k (l.length:Int) l=some (k,l)) {a:List α} {k:Int} (ha:a.length<=1048576) (h0:0<=k) (hk:k<=1152921504606846976):
 ∀(m i:Nat) (l:List α),i<=a.length->a.length-i<m->l.length=a.length->(∀j (h:j<l.length),j<i->∃x,l[j]=g (k+c*j) x)->
  ∃b,LM m (k+c*i) (i:Int) l=some (k+c*a.length,b)∧b.length=a.length∧∀j (h:j<b.length),∃x,b[j]=g (k+c*j) x
 |0,i,l,_,hm,_,_=>by omega
 |m+1,i,l,hi,hm,hl,hI=>by
  have hci:(c:Int)*i<=64*1048576:=by
   have:c*i<=64*1048576:=Nat.mul_le_mul hc (by omega)
   have e:((c*i:Nat):Int)=(c:Int)*i:=by simp
   omega
  have hc0:0<=(c:Int)*i:=Int.mul_nonneg (Int.natCast_nonneg _) (Int.natCast_nonneg _)
  by_cases h:i<a.length
  ·rw [hs m (k+c*i) i l (by omega) (by omega) (by omega) (by omega)]
   have:=Tl c g hc hs he ha h0 hk m (i+1) (l.set i (g (k+c*i) (l[i]'(by omega)))) (by omega) (by omega) (by simpa using hl) (by
    intro j hj hji
    rw [List.getElem_set]
    by_cases e:i=j
    ·subst e;rw [if_pos rfl];exact⟨_,rfl⟩
    ·rw [if_neg e];exact hI j (by simpa using hj) (by omega))
   rw [show k+(c:Int)*i+c=k+c*((i+1:Nat):Int) by rw [Int.natCast_succ,Int.mul_add];omega]
   exact this
  ·obtain rfl:i=l.length:=by omega
   rw [he]
   exact⟨l,by rw [hl],hl,fun j hj=>hI j hj (by omega)⟩
theorem fO{α:Type}{LH:Nat->Int->Int->Option Int}(c:Nat)(g:Int->α->α)(hc:c<=64){b:List α}
 (hs:∀(m:Nat) (k:Int) (i:Nat) (hi:i<b.length) (x:α),b[i]=g k x->i<4611686018427387904->0<=k->k<=2305843009213693951->LH (m+1) k (i:Int)=LH m (k+c) ((i+1:Nat):Int))
 (he:∀(m:Nat) (k:Int),LH (m+1) k (b.length:Int)=some k) {k:Int} (hb:b.length<=1048576) (h0:0<=k) (hk:k<=1152921504606846976) (hI:∀j (h:j<b.length),∃x,b[j]=g (k+c*j) x):
 ∀(m i:Nat),i<=b.length->b.length-i<m->LH m (k+c*i) (i:Int)=some (k+c*b.length)
 |0,i,_,hm=>by omega
 |m+1,i,hi,hm=>by
  have hci:(c:Int)*i<=64*1048576:=by
   have:c*i<=64*1048576:=Nat.mul_le_mul hc (by omega)
   have e:((c*i:Nat):Int)=(c:Int)*i:=by simp
   omega
  have hc0:0<=(c:Int)*i:=Int.mul_nonneg (Int.natCast_nonneg _) (Int.natCast_nonneg _)
  by_cases h:i<b.length
  ·obtain⟨x,hx⟩:=hI i h
   rw [hs m (k+c*i) i h x hx (by omega) (by omega) (by omega)]
   have:=fO c g hc hs he hb h0 hk hI m (i+1) (by omega) (by omega)
   rw [show k+(c:Int)*i+c=k+c*((i+1:Nat):Int) by rw [Int.natCast_succ,Int.mul_add];omega]
   exact this
  ·obtain rfl:i=b.length:=by omega
   exact he m _
end Go.Eng
namespace Go.Eng
open Go Go.RowKit
/-! ## Arrays in a box, texts put together, bytes as a text -/
section
variable {P:Program} {N:Nat} {K:KL} {o:Oper} {w:World}
theorem Lg{t x i e b off k m sz len}(ho:o.op= .indexAddr t x i)(hu:P.underlying t=some (.array len e))(hc:Am P e=some sz)(hx:Bm K x=some (.pointer (some ⟨b,off,none⟩)))
 (hi:Bm K i=some (.int k m)) (h0:0<=m∧m<(len:Int)):Df P N K o w (.pointer (some ⟨b,off+m.toNat*sz,none⟩)):=by
 intro a hK w' _
 obtain⟨i,hi2,hs⟩:=Option.map_eq_some_iff.1 hc
 simp [execOp,ho,hK.ev hx,hK.ev hi,Instr.indexAt,Instr.sureAddr,asIntOf,run_underlying hu,h0.1,h0.2,sizeOf,typeInfo,hi2,hs,CA]
def Sw(x y:ByteArray):Option ByteArray:=if ((x.size+y.size:Nat):Int)>IntKind.i64.max then none else some (x++y)
theorem TW{t x y u m n r}(ho:o.op= .binOp .add t x y u)(hx:Bm K x=some (.string m))(hy:Bm K y=some (.string n))(hr:Sw m n=some r):Df P N K o w (.string r):=by
 intro a hK w' _
 unfold Sw at hr
 split at hr
 ·cases hr
 ·rename_i hn
  obtain rfl:=Option.some.inj hr
  have e:(binOp .add t (.string m) (.string n)).run P w'= .ok (.string (m++n)) w':=by
   show(Op.stringOp .add m n).run P w'=_
   unfold Op.stringOp
   rw [if_neg hn];rfl
  simp [execOp,ho,hK.ev hx,hK.ev hy,eqGuard,Sem.run_bind,e]
def ZD(xs:List Int):ByteArray:=xs.foldl (fun r n=>r.push (UInt8.ofNat n.toNat)) ByteArray.empty
theorem Uw{s t x e v xs S}(ho:o.op= .convert s t x)(hs:P.underlying s=some (.slice e))(he:P.underlying e=some (.int .u8))(ht:P.underlying t=some .string)(hx:Bm K x=some v)(hr:AD (AL .u8) w S xs v):
 Df P N K o w (.string (ZD xs)):=by
 intro a hK w' hw
 obtain⟨ad,cap,rfl,⟨h2,h3⟩,h4,h5⟩:=hr
 have e1:=run_convert_bytes_string (P:=P) w' s t e ad xs.length cap hs he ht
 have e2:(Conv.bytesToString (.slice ad xs.length cap)).run P w'= .ok (.string (ZD xs)) w':=by
  cases ad with
  |none=>
   have:xs=[]:=by
    cases xs with
    |nil=>rfl
    |cons y ys=>obtain⟨b,off,q,_⟩:=h5 (by simp);cases q
   subst this;rfl
  |some ad=>
   refine run_bytesToString w' ad xs.length cap xs ?_
   by_cases hl:0<xs.length
   ·obtain⟨b,off,q,_,h6⟩:=h5 hl
    obtain rfl:=Option.some.inj q
    have:=run_loadCells_list (P:=P) w' ⟨b,off,none⟩ (xs.map (Value.int .u8)) (fun j v hj=>by
     rw [List.getElem?_map]at hj
     cases hx2:xs[j]? with
     |none=>rw [hx2]at hj;cases hj
     |some y=>
      rw [hx2]at hj
      obtain rfl:=Option.some.inj hj
      obtain⟨us,h7,h8⟩:=h6 j y hx2
      obtain rfl:us=[.int .u8 y]:=h7
      have h9:=h8.ext hw 0 _ rfl
      rw [CA]
      simpa [AL] using h9.1)
    simpa using this
   ·have:xs=[]:=by
     cases xs with
     |nil=>rfl
     |cons y ys=>simp at hl
    subst this;rfl
 simp [execOp,ho,hK.ev hx,e1,e2]
end
/-! ## RF laws on sizes and marks -/
theorem aS{α:Type}{xs:List α}{L:Nat->Int->Int->Option Int}{f:α->Int->Option Int}{SM:α->Prop}(hx:xs.length<=1048576)
 (hf:∀x∈xs,∀left,0<=left->left<=1048576->∃r,f x left=some r∧r<=left∧(0<=r->SM x))
 (hs:∀(m i:Nat) (left:Int) (hi:i<xs.length),i<4611686018427387904->L (m+1) left (i:Int)=Option.bind (f xs[i] left) fun r=>bif decide (r<0)then some (-1)else L m r ((i+1:Nat):Int))
 (he:∀(m:Nat) (left:Int),L (m+1) left (xs.length:Int)=some left):
 ∀(m i:Nat) (left:Int),i<=xs.length->xs.length-i<m->0<=left->left<=1048576->(∀j (h:j<xs.length),j<i->SM xs[j])->∃r,L m left (i:Int)=some r∧r<=left∧(0<=r->∀x∈xs,SM x)
 |0,i,_,_,hm,_,_,_=>by omega
 |m+1,i,left,hi,hm,h0,h1,hI=>by
  by_cases h:i<xs.length
  ·obtain⟨r,e,hr,hsm⟩:=hf _ (List.getElem_mem h) left h0 h1
   rw [hs m i left h (by omega),e,Option.bind_some]
   by_cases hn:r<0
   ·rw [decide_eq_true hn];exact⟨-1,rfl,by omega,fun h=>by omega⟩
   ·rw [decide_eq_false hn,cond_false]
    obtain⟨r2,e2,hr2,hs2⟩:=aS hx hf hs he m (i+1) r (by omega) (by omega) (by omega) (by omega) (fun j hj hji=>by
     by_cases q:j=i
     ·subst q;exact hsm (by omega)
     ·exact hI j hj (by omega))
    exact⟨r2,e2,by omega,hs2⟩
  ·obtain rfl:i=xs.length:=by omega
   rw [he]
   exact⟨left,rfl,Int.le_refl _,fun _ x hx=>by
    obtain⟨j,hj⟩:=List.getElem?_of_mem hx
    obtain⟨h1,h2⟩:=List.getElem?_eq_some_iff.1 hj
    rw [←h2];exact hI j h1 h1⟩
theorem PM{x y:ByteArray}(h:x.size+y.size<=4611686018427387904):Sw x y=some (x++y):=by
 unfold Sw
 rw [if_neg (by show¬_>(9223372036854775807:Int);omega)]
theorem Ow(xs:List Int):(ZD xs).size=xs.length:=by
 have:∀(xs:List Int) (b:ByteArray),(xs.foldl (fun r n=>r.push (UInt8.ofNat n.toNat)) b).size=b.size+xs.length:=by
  intro xs;induction xs with
  |nil=>intro b;rfl
  |cons x xs ih=>intro b;rw [List.foldl_cons,ih,ByteArray.size_push,List.length_cons];omega
 have:=this xs ByteArray.empty
 simpa [ZD] using this
theorem Dm:maxLen=9223372036854775807:=by decide
end Go.Eng
namespace Go.Eng
open Go Go.RowKit Go.ChangeShapes Go.WideShapes Go.ChangeAt
/-! ## A statement whose answer is true, where package-level variables are laid -/
theorem iV{C:Checked}{os:Os}{f:FuncId}{fn:Func}{s:ChangeSpec}{conds:List PathCond}{H:Type}{enc:TypeId×Value->H}{tb:TypeId}{laid:List (String×DataW Unit)}
 (own:ownKnob C.prog.godebug=none) (started:os.Started) (noInit:C.prog.inits.idxOf? f=none) (hfn:C.prog.funcs[f]? =some fn)
 (witness:∃(w:World) (tape:Tape) (i:Input),w.os=os∧(w.forCall tape i).Shaped C.prog∧i.vars=[]∧Input.okWide C.prog (w.forCall tape i) .any w.heap.size f i∧
  ((s.pre enc C.prog fn conds false (w.forCall tape i).memory i.args∧laidMetH C.prog laid (w.forCall tape i).memory)∧sizedMet enc C.prog fn (OpenSpec.ofChange s) false (w.forCall tape i).memory i.args)∧({}:Assume).holds C.prog (lone (Frame.enter C.prog f i.args .normal) [] (w.forCall tape i)))
 (hl:laidOutB C.prog=true) (hvars:s.vars=[]) (hspec:∀ds:List (DataW H),ds.length=fn.params.toList.length->s.fn H ds={ results:=[.lit (.bool true)],args:=ds })
 (hrt:fn.resultTypes= #[tb]) (hub:C.prog.underlying tb=some .bool) (hpar:∀t∈fn.params.toList,C.prog.readableRec t=true∧t<C.prog.types.size)
 (run:∀(W:World) (base:Nat) (args:Array Value) (ds:List (DataW H)) (p:List MemPlace),
  (∀(j:Nat) t v,fn.params[j]? =some t->args[j]? =some v->Value.okWide C.prog W .any base t v)->
  DataW.TrodAll enc C.prog W 0 (fun _=>true) true fn.params.toList args.toList ds p->W.noneFrozen p->
  Calls C.prog f args W (DA fun u w2=>u= .bool true∧AJ W w2)):
 ReturnsInHanded {} C os f .any (fun w args=>(s.pre enc C.prog fn conds false w args∧laidMetH C.prog laid w)∧sizedMet enc C.prog fn (OpenSpec.ofChange s) false w args) (s.post enc C.prog fn false true false false):=by
 refine returnsInHanded_of_change_and (X:=fun w _=>laidMetH C.prog laid w) (fun _ _ _ hh h=>h.of_heap hh) own started noInit hfn witness ?_
 intro W base args ds gs before hval hW _ _ _ _
 have hW':=hW
 obtain⟨p,q,hA,hV,rfl,hz,_⟩:=hW
 rw [hvars]at hV
 obtain⟨rfl,rfl⟩:=trodVars_none hV
 refine(run W base args ds p hval hA (fun b' o' hm=>hz b' o' (List.mem_append_left _ hm))).mono fun e W' ⟨v,he,hv,hB⟩=>?_
 subst hv
 have e1:s.fn H (ds++[])={ results:=[.lit (.bool true)],args:=ds }:=by rw [List.append_nil];exact hspec ds (Ma hA)
 refine⟨_,he,ds,[],p++[],[],p,[],hW',?_,?_,?_,hB.frame _,fun h=>by cases h⟩
 ·rw [e1,hrt]
  exact⟨[],[],⟨1,by simp [DataW.trod,Value.cells,hub]⟩,rfl,rfl⟩
 ·rw [e1]
  exact Kk hl hB hpar hA (fun x hx=>hW'.lt x (List.mem_append_left _ hx))
 ·rw [e1,hvars];rfl
section
variable {H:Type} {enc:TypeId × Value -> H} {P:Program} {w:World} {base:Nat} {spare:Nat -> Bool} {held:Bool}
theorem oJ{vs:List Value}{ds:List (DataW H)}{ps:List MemPlace}(h:DataW.TrodAll enc P w base spare held [] vs ds ps):vs=[]∧ds=[]:=by
 match vs,ds,h with
 |[],[],_=>exact⟨rfl,rfl⟩
theorem lD{t:TypeId}{ts:List TypeId}{vs:List Value}{ds:List (DataW H)}{ps:List MemPlace}(h:DataW.TrodAll enc P w base spare held (t::ts) vs ds ps)(hz:w.noneFrozen ps):
 ∃v vs' d ds' p q,vs=v::vs'∧ds=d::ds'∧DataW.Trod enc P w base spare held t v d p∧w.noneFrozen p∧DataW.TrodAll enc P w base spare held ts vs' ds' q∧w.noneFrozen q:=by
 match vs,ds,h with
 |v::vs',d::ds',⟨p,q,h1,h2,e⟩=>subst e;exact⟨v,vs',d,ds',p,q,rfl,rfl,h1,fun b o hm=>hz b o (List.mem_append_left _ hm),h2,fun b o hm=>hz b o (List.mem_append_right _ hm)⟩
theorem vD{a:Array Value}{l:List Value}(h:a.toList=l):a=l.toArray:=by rw [←h]
end
section
variable {P:Program} {N:Nat} {K:KL} {o:Oper} {w w0:World}
end
end Go.Eng
namespace Go.Eng
open Go Go.RowKit
/-! ## Orders of a drawn region that writes -/
section
variable {P:Program} {N:Nat} {ops:Array Oper} {Q:Exit -> Act -> World -> Prop} {n:Nat} {K:KL} {w w0:World} {f:Nat} {listed:Array Bool} {p:Nat -> Prop}
def HGB(P:Program)(N:Nat)(ops:Array Oper)(n:Nat)(Q:Exit->Act->World->Prop)(p:Nat->Prop)(w0:World)(f:Nat)(listed:Array Bool)(K:KL)(w:World)(j:Nat):Prop:=
 HeadInv .any ops n listed->CS p w0 w->∀a,Kn N K a->wpOp P ops Q j (fun a' w'=>(j<n->CS p w0 w')∧CL P .any ops n Q (fun w'=>CS p w0 w') f (listed.setIfInBounds j true) a' w') a w
theorem Iw.many{js:List Nat}(hr:Region.ready .any ops listed=js)(hne:js.isEmpty=false)(h:∀j∈js,HGB P N ops n Q p w0 f listed K w j):Iw P N ops n Q p w0 (f+1) listed K w:=by
 intro inv hx a hK
 refine⟨fun h0=>(by rw [hr]at h0;subst h0;cases hne),fun j hj=>?_⟩
 rw [hr]at hj
 exact h j hj inv hx a hK
theorem HGB.eff{o:Oper}{R:Value->World->Prop}(i:Nat)(hi:ops[i]? =some o)(hin:Nat.blt i n=true)(hr:(Region.ready .any ops listed).contains i=true)(hg:o.guard=none)(hd:Bw N o.dst=true)
 (h:Fx P N K o w R) (k:∀v w',R v w'->CS p w0 w'∧Iw P N ops n (noPan Q) p w0 f (listed.setIfInBounds i true) (BC K o.dst v) w'):HGB P N ops n (noPan Q) p w0 f listed K w i:=by
 intro inv hx a hK
 have hin':i<n:=by have h2:=hin;simp [Nat.blt]at h2;omega
 have hri:i∈Region.ready .any ops listed:=by simpa using hr
 unfold wpOp
 simp only [hi]
 rw [if_pos (by simp [Region.wanted,hg])]
 refine .inl (h a hK _ _ fun u w' hR=>?_)
 obtain⟨h1,h2⟩:=k u w' hR
 exact⟨fun _=>h1,h2 (inv.set hri hin') h1 _ (hK.put (Bw.h hd))⟩
theorem CS.trans(h:CS p w0 w){w2:World}(h2:CS p w w2):CS p w0 w2:=h.but h2 fun _ hk=>.inl hk
theorem Iw.shrink(h:Iw P N ops n Q p w f listed K w):Iw P N ops n Q p w0 f listed K w:=by
 intro inv hx a hK
 exact CL.mono (fun w2 h2=>CS.trans hx h2) _ _ _ _ (h inv (CS.refl p w) a hK)
end
end Go.Eng
namespace Go.Eng
open Go Go.RowKit
/-! ## The beginning of an own slice -/
def kL(v:Value)(m:Nat):Value:=match v with
 | .slice a _ cap=>.slice a m cap
 |v=>v
section
variable {P:Program} {N:Nat} {o:Oper} {K:KL} {w:World}
variable {α:Type} {c:Bp α} {B:Nat} {S:Nat -> Prop} {e:TypeId} {xs:List α} {v:Value}
theorem YW{m:Nat}:(kL v m).ownBlock=v.ownBlock:=by
 cases v with
 |slice a n cap=>cases a<;>rfl
 |_=>rfl
theorem AB.cut(h:AB c w B S e xs v){m:Nat}(hm:m<=xs.length):AB c w B S e (xs.take m) (kL v m):=by
 obtain⟨cs,⟨hl,h1⟩,h2⟩:=h
 have hmn:m*c.n<=xs.length*c.n:=Nat.mul_le_mul_right _ hm
 refine⟨cs.take (m*c.n),⟨?_,?_⟩,?_⟩
 ·rw [List.length_take,List.length_take]
  rw [show min m xs.length=m by omega];omega
 ·rw [List.length_take,show min m xs.length=m by omega]
  rcases h1 with ⟨rfl,h0⟩|⟨g,cap,cur,rfl,a1,a2,a3,a4,a5,a6⟩
  ·obtain rfl:m=0:=by omega
   exact .inl ⟨rfl,rfl⟩
  ·refine .inr ⟨g,cap,cur,rfl,a1,a2,by omega,a4,a5,?_⟩
   rw [←a6,List.take_take]
   congr 1;omega
 ·intro i x hx
  have hi:i<m:=by
   have:=(List.getElem?_eq_some_iff.1 hx).1
   rw [List.length_take]at this;omega
  rw [List.getElem?_take_of_lt hi]at hx
  have:=h2 i x hx
  have e1:Ae (cs.take (m*c.n)) c.n i=Ae cs c.n i:=by
   unfold Ae
   have:(i+1)*c.n<=m*c.n:=Nat.mul_le_mul_right _ (by omega)
   rw [Nat.add_mul]at this
   rw [List.drop_take,List.take_take]
   congr 1;omega
  rw [e1];exact this
end
end Go.Eng
namespace Go.Eng
open Go Go.RowKit
/-! ## Steps that ask for no fact, many at once -/
def lO(op:BinOp)(k:IntKind)(m n:Int):Option Value:=match op with
 | .add=>some (.int k (k.wrap (m+n)))
 | .sub=>some (.int k (k.wrap (m-n)))
 | .mul=>some (.int k (k.wrap (m*n)))
 | .quo=>bif n==0 then none else some (.int k (k.wrap (m.tdiv n)))
 | .rem=>bif n==0 then none else some (.int k (m.tmod n))
 | .lss=>some (.bool (decide (m<n)))
 | .leq=>some (.bool (decide (m<=n)))
 | .gtr=>some (.bool (decide (m>n)))
 | .geq=>some (.bool (decide (m>=n)))
 | .eql=>some (.bool (m==n))
 | .neq=>some (.bool (m !=n))
 |_=>none
def yq(K:KL)(p:Op):Option Value:=match p with
 | .move x=>Bm K x
 | .assign x=>Bm K x
 | .binOp op _ x y _=>match Bm K x,Bm K y with
  |some (.int k m),some (.int k' n)=>bif decide (k=k')then lO op k m n else none
  |some (.string a),some (.string b)=>match op with
   | .eql=>some (.bool (a.toList==b.toList))
   | .neq=>some (.bool (a.toList !=b.toList))
   |_=>none
  |_,_=>none
 | .unOp u _ x=>match Bm K x with
  |some (.bool b)=>match u with
   | .not=>some (.bool (!b))
   |_=>none
  |some (.int k m)=>match u with
   | .neg=>some (.int k (k.wrap (0-m)))
   |_=>none
  |_=>none
 | .extract x i=>match Bm K x with
  |some (.tuple vs)=>vs[i]?
  |_=>none
 | .pick c x y=>match Bm K c with
  |some (.bool b)=>match b with
   |true=>Bm K x
   |false=>Bm K y
  |_=>none
 |_=>none
section
variable {P:Program} {N:Nat}
theorem dF{K:KL}{o:Oper}{w:World}{op t x y u k m n v}(ho:o.op= .binOp op t x y u)(hx:Bm K x=some (.int k m))(hy:Bm K y=some (.int k n))(h:lO op k m n=some v):Df P N K o w v:=by
 cases op<;>simp only [lO,Option.some.injEq,reduceCtorEq]at h
 case add=>subst h;exact dZ ho hx hy
 case sub=>subst h;exact cB ho hx hy
 case mul=>subst h;exact dG ho hx hy
 case quo=>obtain⟨h1,h2⟩:=Oj h;obtain rfl:=Option.some.inj h2;exact PY ho hx hy h1
 case rem=>obtain⟨h1,h2⟩:=Oj h;obtain rfl:=Option.some.inj h2;exact Pc ho hx hy h1
 case lss=>subst h;exact eK ho hx hy
 case leq=>subst h;exact bC ho hx hy
 case gtr=>subst h;exact cX ho hx hy
 case geq=>subst h;exact dU ho hx hy
 case eql=>subst h;exact bU ho hx hy
 case neq=>subst h;exact bF ho hx hy
theorem Lo{K:KL}{o:Oper}{w:World}{v:Value}(h:yq K o.op=some v):Df P N K o w v:=by
 generalize ho:o.op=p at h
 cases p<;>simp only [yq,reduceCtorEq]at h
 case move=>exact JJ ho h
 case assign=>exact TB ho h
 case binOp=>
  split at h
  ·rename_i k m k' n hx hy
   by_cases hk:k=k'
   ·subst hk;rw [decide_eq_true rfl]at h;exact dF ho hx hy h
   ·rw [decide_eq_false hk]at h;cases h
  ·rename_i a b hx hy
   split at h
   ·obtain rfl:=Option.some.inj h;exact dA ho hx hy
   ·obtain rfl:=Option.some.inj h;exact eL ho hx hy
   ·cases h
  ·cases h
 case unOp=>
  split at h
  ·rename_i b hx
   split at h
   ·obtain rfl:=Option.some.inj h;exact aZ ho hx
   ·cases h
  ·rename_i k m hx
   split at h
   ·obtain rfl:=Option.some.inj h;exact bA ho hx
   ·cases h
  ·cases h
 case extract=>
  split at h
  ·rename_i vs hx;exact DD ho hx h
  ·cases h
 case pick=>
  split at h
  ·rename_i b hc
   split at h
   ·exact Sq ho hc rfl h
   ·exact SH ho hc rfl h
  ·cases h
end
inductive Gd where
 |yes|skip|no
def FD(N:Nat)(ops:Array Oper)(K:KL)(o:Oper):Gd:=match Bw N o.dst with
 |false=>.no
 |true=>match o.guard with
  |none=>.yes
  |some (j,want)=>match MQ ops j with
   |none=>.no
   |some t=>match kl K t with
    |some (.bool b)=>match b with
     |true=>match want with
      |true=>.yes
      |false=>.skip
     |false=>match want with
      |true=>.skip
      |false=>.yes
    |some (.tuple _)=>.skip
    |_=>.no
section
variable {P:Program} {N:Nat} {ops:Array Oper} {Q:Exit -> Act -> World -> Prop} {K:KL} {w:World} {o:Oper} {rest:List Oper} {Qa:Act -> Prop}
theorem Jq{g:Gd}(h:FD N ops K o=g)(hg:g≠ .no):Bw N o.dst=true:=by
 subst h
 cases hd:Bw N o.dst with
 |true=>rfl
 |false=>exact absurd (by simp [FD,hd]) hg
theorem GL(h:FD N ops K o= .yes){a:Act}(hK:Kn N K a):Region.wanted o (yielded ops a.tmps)=true:=by
 unfold FD at h
 split at h
 ·cases h
 split at h
 ·rename_i hg;simp [Region.wanted,hg]
 ·rename_i j want hg
  split at h
  ·cases h
  ·rename_i t hs
   split at h
   ·rename_i b hb
    refine SQ hK hg hs hb ?_
    cases b<;>cases want<;>first|rfl|cases h
   ·cases h
   ·cases h
theorem NJ(h:FD N ops K o= .skip){a:Act}(hK:Kn N K a):Region.wanted o (yielded ops a.tmps)=false:=by
 unfold FD at h
 split at h
 ·cases h
 split at h
 ·cases h
 ·rename_i j want hg
  split at h
  ·cases h
  ·rename_i t hs
   split at h
   ·rename_i b hb
    refine Uv hK hg hs hb ?_
    cases b<;>cases want<;>first|rfl|cases h
   ·rename_i x hb
    have h1:=hK.get t _ hb
    unfold MQ at hs
    simp [Region.wanted,hg,yielded,hs,h1]
   ·cases h
theorem Yl{v:Value}(h0:FD N ops K o= .yes)(h:Df P N K o w v)(k:TL P N ops Q rest (BC K o.dst v) w):TL P N ops Q (o::rest) K w:=by
 intro a hK
 unfold wpList
 rw [if_pos (GL h0 hK)]
 exact .inl (h.eff a hK _ Q fun u w' ⟨e1,e2⟩=>by subst e1 e2;exact k _ (hK.put (Bw.h (Jq h0 (by simp)))))
theorem Ef{R:Value->World->Prop}(h0:FD N ops K o= .yes)(h:Fx P N K o w R)(k:∀v w',R v w'->TL P N ops Q rest (BC K o.dst v) w'):TL P N ops Q (o::rest) K w:=by
 intro a hK
 unfold wpList
 rw [if_pos (GL h0 hK)]
 exact .inl (h a hK _ Q fun u w' hR=>k u w' hR _ (hK.put (Bw.h (Jq h0 (by simp)))))
theorem Ye{Ψ:Value->Prop}(h0:FD N ops K o= .yes)(h:YE P N K o w Ψ)(k:∀v,Ψ v->TL P N ops Q rest (BC K o.dst v) w):TL P N ops Q (o::rest) K w:=by
 obtain⟨v,h1,h2⟩:=h;exact Yl h0 h1 (k v h2)
theorem Sk(h0:FD N ops K o= .skip)(k:TL P N ops Q rest (BC K o.dst undef) w):TL P N ops Q (o::rest) K w:=by
 intro a hK
 unfold wpList
 rw [if_neg (by rw [NJ h0 hK];exact Bool.false_ne_true)]
 exact k _ (hK.put (Bw.h (Jq h0 (by simp))))
theorem Ql{v:Value}(h0:FD N ops K o= .yes)(h:tR P N K o w v)(k:QL P N ops w Qa rest (BC K o.dst v)):QL P N ops w Qa (o::rest) K:=by
 intro a hK
 unfold wpQuiet
 rw [if_pos (GL h0 hK)]
 exact⟨v,fun w' hw'=>h a hK w' hw',k _ (hK.put (Bw.h (Jq h0 (by simp))))⟩
theorem Qy{v:Value}(h0:FD N ops K o= .yes)(h:Df P N K o w v)(k:QL P N ops w Qa rest (BC K o.dst v)):QL P N ops w Qa (o::rest) K:=Ql h0 h.qui k
theorem Qe{Ψ:Value->Prop}(h0:FD N ops K o= .yes)(h:YE P N K o w Ψ)(k:∀v,Ψ v->QL P N ops w Qa rest (BC K o.dst v)):QL P N ops w Qa (o::rest) K:=by
 obtain⟨v,h1,h2⟩:=h;exact Qy h0 h1 (k v h2)
theorem Qs(h0:FD N ops K o= .skip)(k:QL P N ops w Qa rest (BC K o.dst undef)):QL P N ops w Qa (o::rest) K:=by
 intro a hK
 unfold wpQuiet
 rw [if_neg (by rw [NJ h0 hK];exact Bool.false_ne_true)]
 exact k _ (hK.put (Bw.h (Jq h0 (by simp))))
theorem Kn.know{a:Act}{t:Nat}{u u':Value}(hK:Kn N K a)(h:kl K t=some u)(e:u=u'):Kn N ((t,u')::K) a:=by
 subst e
 refine⟨hK.df,hK.sz,fun s v hs=>hK.get s v ?_⟩
 simp only [kl]at hs
 cases hb:Nat.beq t s with
 |true=>obtain rfl:=Nat.eq_of_beq_eq_true hb;rw [hb]at hs;simp at hs;subst hs;exact h
 |false=>rw [hb]at hs;simpa using hs
theorem Kc(t:Nat){b b':Bool}{l:List Oper}(e:b=b')(h:kl K t=some (.bool b))(k:TL P N ops Q l ((t,.bool b')::K) w):TL P N ops Q l K w:=fun a hK=>k a (hK.know h (by rw [e]))
theorem Kq(t:Nat){b b':Bool}{l:List Oper}(e:b=b')(h:kl K t=some (.bool b))(k:QL P N ops w Qa l ((t,.bool b')::K)):QL P N ops w Qa l K:=fun a hK=>k a (hK.know h (by rw [e]))
theorem uY{c b:Bool}(h:c=true):b=(c&&b):=by subst h;rfl
theorem vE{c b:Bool}(h:c=false):false=(c&&b):=by subst h;rfl
theorem vB{c b:Bool}(h:c=true):true=(c||b):=by subst h;rfl
theorem uV{c b:Bool}(h:c=false):b=(c||b):=by subst h;rfl
end
inductive Frame where
 |seq (c:Code)
 |blk (id:Nat)
 |lp (f:Act->World->Prop)
inductive Md where
 |c (c:Code)
 |o (ops:Array Oper) (l:List Oper)
 |e (e:Exit)
section
variable (P:Program) (N:Nat) (Q0:Exit -> Act -> World -> Prop)
def FY:List Frame->Exit->Act->World->Prop
 |[]=>Q0
 | .seq c::fs=>Exit.then (fun a w=>c.wp P (FY fs) a w) (FY fs)
 | .blk id::fs=>Exit.inBlock id (FY fs)
 | .lp f::fs=>Exit.then f (FY fs)
def uZ(m:Md)(fs:List Frame)(K:KL)(w:World):Prop:=match m with
 | .c c=>WC P N c (FY P Q0 fs) K w
 | .o ops l=>TL P N ops (FY P Q0 fs) l K w
 | .e e=>NX N (FY P Q0 fs) e K w
def GT:Nat->Md->List Frame->KL->World->Prop
 |0=>fun m fs K w=>uZ P N Q0 m fs K w
 |n+1=>fun m fs K w=>match m with
  | .c c=>match c with
   | .seq x y=>GT n (.c x) (.seq y::fs) K w
   | .region _ ops false=>GT n (.o ops ops.toList) fs K w
   | .block id x=>GT n (.c x) (.blk id::fs) K w
   | .skip=>GT n (.e .normal) fs K w
   | .exit id=>GT n (.e (.exit id)) fs K w
   | .ret=>GT n (.e .ret) fs K w
   |_=>False
  | .o ops l=>match l with
   |[]=>GT n (.e .normal) fs K w
   |o::rest=>match FD N ops K o with
    | .yes=>match yq K o.op with
     |some v=>GT n (.o ops rest) fs (BC K o.dst v) w
     |none=>False
    | .skip=>GT n (.o ops rest) fs (BC K o.dst undef) w
    | .no=>False
  | .e e=>match fs with
   |[]=>False
   | .seq c::fs=>match e with
    | .normal=>GT n (.c c) fs K w
    | .ret=>GT n (.e .ret) fs K w
    | .exit id=>GT n (.e (.exit id)) fs K w
    |_=>False
   | .blk id::fs=>match e with
    | .normal=>GT n (.e .normal) fs K w
    | .ret=>GT n (.e .ret) fs K w
    | .exit id'=>bif Nat.beq id' id then GT n (.e .normal) fs K w else GT n (.e (.exit id')) fs K w
    |_=>False
   | .lp f::fs=>match e with
    | .normal=>∀a,Kn N K a->f a w
    | .ret=>GT n (.e .ret) fs K w
    | .exit id=>GT n (.e (.exit id)) fs K w
    |_=>False
end
section
variable {P:Program} {N:Nat} {Q0:Exit -> Act -> World -> Prop}
theorem GT.ok:∀(n:Nat) {m:Md} {fs:List Frame} {K:KL} {w:World},GT P N Q0 n m fs K w->uZ P N Q0 m fs K w
 |0,_,_,_,_,h=>h
 |n+1,m,fs,K,w,h=>by
  cases m with
  |c c=>
   cases c with
   |seq x y=>exact WC.seq (GT.ok n h)
   |region id ops d=>
    cases d with
    |false=>
     have h2:TL P N ops (FY P Q0 fs) ops.toList K w:=GT.ok n h
     show WC P N (.region id ops false) (FY P Q0 fs) K w
     have:ops=ops.toList.toArray:=by simp
     rw [this];rw [this]at h2
     exact WC.region (by simpa using h2)
    |true=>exact h.elim
   |block id x=>exact WC.block (GT.ok n h)
   |skip=>exact WC.skip' (GT.ok n h)
   |exit id=>exact WC.exit' (GT.ok n h)
   |ret=>exact WC.ret' (GT.ok n h)
   |cond _ _ _=>exact h.elim
   |loop _=>exact h.elim
   |_=>exact h.elim
  |o ops l=>
   cases l with
   |nil=>exact TL.done (GT.ok n h)
   |cons o rest=>
    simp only [GT]at h
    split at h
    ·rename_i hg
     split at h
     ·rename_i v hv;exact Yl hg (Lo hv) (GT.ok n h)
     ·exact h.elim
    ·rename_i hg;exact Sk hg (GT.ok n h)
    ·exact h.elim
  |e e=>
   cases fs with
   |nil=>exact h.elim
   |cons f fs=>
    cases f with
    |seq c=>
     cases e with
     |normal=>exact NX.seq (GT.ok n h)
     |ret=>exact NX.then_r (GT.ok n h)
     |exit id=>exact NX.then_e (GT.ok n h)
     |_=>exact h.elim
    |blk id=>
     cases e with
     |normal=>exact NX.blk_n (GT.ok n h)
     |ret=>exact NX.blk_r (GT.ok n h)
     |exit id'=>
      simp only [GT]at h
      cases hb:Nat.beq id' id with
      |true=>
       rw [hb]at h
       obtain rfl:=Nat.eq_of_beq_eq_true hb
       exact NX.blk_hit (GT.ok n h)
      |false=>rw [hb]at h;exact NX.blk_miss hb (GT.ok n h)
     |_=>exact h.elim
    |lp f=>
     cases e with
     |normal=>exact NX.then_n h
     |ret=>exact NX.then_r (GT.ok n h)
     |exit id=>exact NX.then_e (GT.ok n h)
     |_=>exact h.elim
variable {K:KL} {w:World} {fs:List Frame} {ops:Array Oper}
theorem Rc(n:Nat){c:Code}(h:GT P N Q0 n (.c c) fs K w):WC P N c (FY P Q0 fs) K w:=GT.ok (m:=.c c) n h
theorem Ro(n:Nat){l:List Oper}(h:GT P N Q0 n (.o ops l) fs K w):TL P N ops (FY P Q0 fs) l K w:=GT.ok (m:=.o ops l) n h
theorem Re(n:Nat){e:Exit}(h:GT P N Q0 n (.e e) fs K w):NX N (FY P Q0 fs) e K w:=GT.ok (m:=.e e) n h
theorem AA{f:FuncId}{fn:Func}{c:Code}{vs:List Value}{w:World}{R:Ending->World->Prop}
 (hf:P.funcs[f]? =some fn) (hb:fn.body=some c) (hn:fn.ntmps=N) (h:WC P N c (FY P (bodyPost P fn R) []) (OX 0 vs) w):Calls P f vs.toArray w R:=YB hf hb hn h
theorem WC.loopD{c:Code}(I:Nat->Act->World->Prop)(m:Nat)(h0:∀a,Kn N K a->I m a w)
 (round:∀m a w,I m a w->c.wp P (FY P Q0 (.lp (fun a' w'=>∃m',m'<m∧I m' a' w')::fs)) a w):WC P N (.loop c) (FY P Q0 fs) K w:=WC.loop I m h0 round
theorem TL.cutD{l:List Oper}(k:Nat)(K':KL)(R:World->Prop)(h1:TL P N ops (FY P Q0 (.lp (fun a' w'=>Kn N K' a'∧R w')::fs)) (l.take k) K w)(h2:∀w',R w'->TL P N ops (FY P Q0 fs) (l.drop k) K' w'):TL P N ops (FY P Q0 fs) l K w:=TL.cut k K' R h1 h2
end
section
variable (P:Program) (N:Nat) (ops:Array Oper)
def bM(Q:Exit->Act->World->Prop):Nat->List Oper->KL->World->Prop
 |0=>fun l K w=>TL P N ops Q l K w
 |n+1=>fun l K w=>match l with
  |[]=>False
  |o::rest=>match FD N ops K o with
   | .yes=>match yq K o.op with
    |some v=>bM Q n rest (BC K o.dst v) w
    |none=>False
   | .skip=>bM Q n rest (BC K o.dst undef) w
   | .no=>False
def bE(w:World)(Qa:Act->Prop):Nat->List Oper->KL->Prop
 |0=>fun l K=>QL P N ops w Qa l K
 |n+1=>fun l K=>match l with
  |[]=>False
  |o::rest=>match FD N ops K o with
   | .yes=>match yq K o.op with
    |some v=>bE w Qa n rest (BC K o.dst v)
    |none=>False
   | .skip=>bE w Qa n rest (BC K o.dst undef)
   | .no=>False
end
section
variable {P:Program} {N:Nat} {ops:Array Oper} {Q:Exit -> Act -> World -> Prop} {Qa:Act -> Prop}
theorem Tr:∀(n:Nat) {l:List Oper} {K:KL} {w:World},bM P N ops Q n l K w->TL P N ops Q l K w
 |0,_,_,_,h=>h
 |n+1,l,K,w,h=>by
  cases l with
  |nil=>exact h.elim
  |cons o rest=>
   simp only [bM]at h
   split at h
   ·rename_i hg
    split at h
    ·rename_i v hv;exact Yl hg (Lo hv) (Tr n h)
    ·exact h.elim
   ·rename_i hg;exact Sk hg (Tr n h)
   ·exact h.elim
theorem Qr{w:World}:∀(n:Nat) {l:List Oper} {K:KL},bE P N ops w Qa n l K->QL P N ops w Qa l K
 |0,_,_,h=>h
 |n+1,l,K,h=>by
  cases l with
  |nil=>exact h.elim
  |cons o rest=>
   simp only [bE]at h
   split at h
   ·rename_i hg
    split at h
    ·rename_i v hv;exact Qy hg (Lo hv) (Qr n h)
    ·exact h.elim
   ·rename_i hg;exact Qs hg (Qr n h)
   ·exact h.elim
end
end Go.Eng
namespace Go.Eng
open Go Go.RowKit
/-! ## Operations, read off at once -/
def cH(K:KL)(p:Op):Option (Nat×Nat×Nat×Nat):=match p with
 | .fieldAddr t x f=>match Bm K x with
  |some (.pointer (some ⟨b,off,none⟩))=>some (t,f,b,off)
  |_=>none
 |_=>none
def Rl(K:KL)(p:Op):Option (Nat×Nat×Nat):=match p with
 | .load t x=>match Bm K x with
  |some (.pointer (some ⟨b,off,none⟩))=>some (t,b,off)
  |_=>none
 |_=>none
def uO(K:KL)(p:Op):Option (Nat×Nat×Nat×Value):=match p with
 | .store t x y=>match Bm K x with
  |some (.pointer (some ⟨b,off,none⟩))=>match Bm K y with
   |some v=>some (t,b,off,v)
   |none=>none
  |_=>none
 |_=>none
def oK(K:KL)(p:Op):Option (Nat×Value):=match p with
 | .call ⟨.builtin .len,⟨[x]⟩,⟨[t]⟩⟩=>match Bm K x with
  |some v=>some (t,v)
  |none=>none
 |_=>none
def UK(K:KL)(p:Op):Option (Nat×Value×IntKind×Int):=match p with
 | .indexAddr t x i=>match Bm K x with
  |some v=>match Bm K i with
   |some (.int k m)=>some (t,v,k,m)
   |_=>none
  |none=>none
 |_=>none
def oH(K:KL)(p:Op):Option (Nat×List Value):=match p with
 | .call ⟨.value (.func f),xs,_⟩=>match NC K xs.toList with
  |some vs=>some (f,vs)
  |none=>none
 |_=>none
section
variable {P:Program} {N:Nat} {K:KL} {o:Oper} {w:World}
theorem iA{t f b off:Nat}(h:cH K o.op=some (t,f,b,off)):∃x,o.op= .fieldAddr t x f∧Bm K x=some (.pointer (some ⟨b,off,none⟩)):=by
 unfold cH at h
 split at h
 ·rename_i t' x f' ho
  split at h
  ·rename_i b' off' hx
   simp only [Option.some.injEq,Prod.mk.injEq]at h
   obtain⟨rfl,rfl,rfl,rfl⟩:=h
   exact⟨x,ho,hx⟩
  ·cases h
 ·cases h
theorem Pj{t b off:Nat}(h:Rl K o.op=some (t,b,off)):∃x,o.op= .load t x∧Bm K x=some (.pointer (some ⟨b,off,none⟩)):=by
 unfold Rl at h
 split at h
 ·rename_i t' x ho
  split at h
  ·rename_i b' off' hx
   simp only [Option.some.injEq,Prod.mk.injEq]at h
   obtain⟨rfl,rfl,rfl⟩:=h
   exact⟨x,ho,hx⟩
  ·cases h
 ·cases h
theorem Sx{t b off:Nat}{v:Value}(h:uO K o.op=some (t,b,off,v)):∃x y,o.op= .store t x y∧Bm K x=some (.pointer (some ⟨b,off,none⟩))∧Bm K y=some v:=by
 unfold uO at h
 split at h
 ·rename_i t' x y ho
  split at h
  ·rename_i b' off' hx
   split at h
   ·rename_i v' hy
    simp only [Option.some.injEq,Prod.mk.injEq]at h
    obtain⟨rfl,rfl,rfl,rfl⟩:=h
    exact⟨x,y,ho,hx,hy⟩
   ·cases h
  ·cases h
 ·cases h
theorem ZN{t:Nat}{v:Value}(h:oK K o.op=some (t,v)):∃x,o.op= .call { callee:=.builtin .len,args:=#[x],argTypes:=#[t] }∧Bm K x=some v:=by
 unfold oK at h
 split at h
 ·rename_i x t' ho
  split at h
  ·rename_i v' hx
   simp only [Option.some.injEq,Prod.mk.injEq]at h
   obtain⟨rfl,rfl⟩:=h
   exact⟨x,ho,hx⟩
  ·cases h
 ·cases h
theorem SY{t:Nat}{v:Value}{k:IntKind}{m:Int}(h:UK K o.op=some (t,v,k,m)):∃x i,o.op= .indexAddr t x i∧Bm K x=some v∧Bm K i=some (.int k m):=by
 unfold UK at h
 split at h
 ·rename_i t' x i ho
  split at h
  ·rename_i v' hx
   split at h
   ·rename_i k' m' hi
    simp only [Option.some.injEq,Prod.mk.injEq]at h
    obtain⟨rfl,rfl,rfl,rfl⟩:=h
    exact⟨x,i,ho,hx,hi⟩
   ·cases h
  ·cases h
 ·cases h
theorem Zs{f:Nat}{vs:List Value}(h:oH K o.op=some (f,vs)):∃xs ts,o.op= .call { callee:=.value (.func f),args:=xs,argTypes:=ts }∧NC K xs.toList=some vs:=by
 unfold oH at h
 split at h
 ·rename_i f' xs ts ho
  split at h
  ·rename_i vs' hx
   simp only [Option.some.injEq,Prod.mk.injEq]at h
   obtain⟨rfl,rfl⟩:=h
   exact⟨xs,ts,ho,hx⟩
  ·cases h
 ·cases h
theorem BF{t f b off fo:Nat}(h:cH K o.op=some (t,f,b,off))(hf:AK P t f=some fo):Df P N K o w (.pointer (some ⟨b,off+fo,none⟩)):=by
 obtain⟨x,ho,hx⟩:=iA h;exact OT ho hf hx
theorem Di{t b off:Nat}{us:List Value}{T:TypeId}{u:Value}(h:Rl K o.op=some (t,b,off))(ha:Bf P t=some false)(hb:BK w b us T)(hu:us[off]? =some u):Df P N K o w u:=by
 obtain⟨x,ho,hx⟩:=Pj h;exact PF off ho ha hx hb.cells (Nat.zero_add _).symm hu
theorem FG(j:Nat){t b off o0:Nat}{us:List Value}{u:Value}(h:Rl K o.op=some (t,b,off))(ha:Bf P t=some false)(hcs:AM w b o0 us)(hj:off=o0+j)(hu:us[j]? =some u):Df P N K o w u:=by
 obtain⟨x,ho,hx⟩:=Pj h;exact PF j ho ha hx hcs hj hu
theorem CC{t b:Nat}{us:List Value}{T:TypeId}(h:Rl K o.op=some (t,b,0))(ha:Bf P t=some true)(hb:BK w b us T)(hn:Am P t=some us.length):Df P N K o w (.agg us.toArray):=by
 obtain⟨x,ho,hx⟩:=Pj h;exact PD ho ha hx hb.cells hn
theorem CJ{t b off:Nat}{us:List Value}(h:Rl K o.op=some (t,b,off))(ha:Bf P t=some true)(hc:AM w b off us)(hn:Am P t=some us.length):Df P N K o w (.agg us.toArray):=by
 obtain⟨x,ho,hx⟩:=Pj h;exact PD ho ha hx hc hn
section
variable {α:Type} {c:Bp α} {xs:List α} {S:Nat -> Prop} {v:Value} {e:TypeId} {B:Nat}
theorem Bs{t:Nat}(h:oK K o.op=some (t,v))(hu:P.underlying t=some (.slice e))(hs:AD c w S xs v):Df P N K o w (.int .i64 xs.length):=by
 obtain⟨x,ho,hx⟩:=ZN h;exact iG ho hu hx hs
theorem Mg{t:Nat}(h:oK K o.op=some (t,v))(hu:P.underlying t=some (.slice e))(hs:AB c w B S e xs v):Df P N K o w (.int .i64 xs.length):=by
 obtain⟨x,ho,hx⟩:=ZN h;exact RN ho hu hx hs
theorem EJ{y:α}{t:Nat}{k:IntKind}{m:Int}(h:UK K o.op=some (t,v,k,m))(hu:P.underlying t=some (.slice e))(hc:Am P e=some c.n)(hs:AD c w S xs v)(hg:AE xs m=some y):
 YE P N K o w (fun u=>∃b off us,u= .pointer (some ⟨b,off,none⟩)∧S b∧c.rep w S y us∧AM w b off us):=by
 obtain⟨x,i,ho,hx,hi⟩:=SY h;exact WI ho hu hc hx hi hs hg
theorem Rm{y:α}{t:Nat}{k:IntKind}{m:Int}(h:UK K o.op=some (t,v,k,m))(hu:P.underlying t=some (.slice e))(hc:Am P e=some c.n)(hs:AB c w B S e xs v)(hg:AE xs m=some y):
 YE P N K o w (fun u=>∃g us,u= .pointer (some ⟨g,0+m.toNat*c.n,none⟩)∧v.ownBlock=some g∧c.rep w S y us∧AM w g (0+m.toNat*c.n) us):=by
 obtain⟨x,i,ho,hx,hi⟩:=SY h;exact LY ho hu hc hx hi hs hg
end
theorem FW{f:Nat}{vs:List Value}{R:Value->World->Prop}(h:oH K o.op=some (f,vs))(hf:AZ P f=true)(hc:Calls P f vs.toArray w (DA R)):Fx P N K o w R:=by
 obtain⟨xs,ts,ho,hx⟩:=Zs h;exact Yx ho hf hx hc
theorem Iz{f:Nat}{vs:List Value}{v:Value}(h:oH K o.op=some (f,vs))(hf:AZ P f=true)(hc:∀w',AJ w w'->Calls P f vs.toArray w' (DA fun u w''=>u=v∧AJ w' w'')):tR P N K o w v:=by
 obtain⟨xs,ts,ho,hx⟩:=Zs h;exact Wv ho hf hx hc
theorem Cu{t b off:Nat}{v:Value}{cur:List Value}{e:TypeId}(h:uO K o.op=some (t,b,off,v))(hb:BK w b cur e)(hn:Am P t=some v.cells.toList.length)
 (h1:v.cells.toList.all Value.oneCell'=true) (hfit:Nat.ble (off+v.cells.toList.length) cur.length=true):
 Fx P N K o w (fun _ w'=>Gi b w w'∧BK w' b (cur.take off++v.cells.toList++cur.drop (off+v.cells.toList.length)) e):=by
 obtain⟨x,y,ho,hx,hy⟩:=Sx h;exact Om ho hx hy hb hn h1 hfit
/-! ## Worlds, in fewer words -/
theorem Et{w a b:World}(h:AJ w a)(k:AJ a b):AJ w b∧a.heap.size<=b.heap.size:=⟨AJ.trans h k,k.size⟩
theorem Ebt{p:Nat->Prop}{w a b:World}(h:CS p w a)(k:AJ a b):CS p w b∧a.heap.size<=b.heap.size:=⟨CS.ext h k,k.size⟩
theorem Kn.sub{K':KL}{a:Act}(h:Kn N K a)(e:K'.map (fun p=>kl K p.1)=K'.map (fun p=>some p.2)):Kn N K' a:=by
 refine h.weaken ?_
 induction K' with
 |nil=>trivial
 |cons p K' ih=>
  simp only [List.map_cons,List.cons.injEq]at e
  exact⟨e.1,ih e.2⟩
theorem Sy{α:Type}{x y:α}(h:some x=some y):x=y:=Option.some.inj h
theorem Bx{α:Type}{x:α}{p:Prop}(h:none=some x):p:=by cases h
theorem Wc{α:Type}{c:Operand}{x y:Code}{t:Bool}{A B:Option α}{r:α}{Q:Exit->Act->World->Prop}(hc:Bm K c=some (.bool t))(hF:(bif t then A else B)=some r)(ht:A=some r->WC P N x Q K w)(hf:B=some r->WC P N y Q K w):WC P N (.cond c x y) Q K w:=
 WC.cond hc (fun h=>ht (OE h hF)) (fun h=>hf (NL h hF))
def YL(K:KL):List ResultVar->Option (List Value)
 |[]=>some []
 | .tmp t::rs=>match kl K t with
  |some v=>match YL K rs with
   |some vs=>some (v::vs)
   |none=>none
  |none=>none
 | .cell _ _::_=>none
theorem TQ:∀{rs:List ResultVar} {vs:List Value},YL K rs=some vs->PC P K w rs vs
 |[],vs,h=>by obtain rfl:=Option.some.inj h;trivial
 | .tmp t::rs,vs,h=>by
  unfold YL at h
  split at h
  ·rename_i v h1
   split at h
   ·rename_i vs' h2
    obtain rfl:=Option.some.inj h
    exact⟨h1,TQ h2⟩
   ·cases h
  ·cases h
 | .cell _ _::_,vs,h=>by cases h
theorem Ne{fn:Func}{rs vs R}(hr:fn.results=List.toArray rs)(ho:YL K rs=some vs)(hR:R (.returned (FH vs)) w):NX N (bodyPost P fn R) .ret K w:=NX.end hr (TQ ho) hR
end
end Go.Eng
namespace Go.Eng
open Go Go.RowKit
theorem Eu{w a c:World}{b:Nat}(h:AJ w a)(hu:Gi b a c)(hb:w.heap.size<=b:=by omega):AJ w c∧c.heap.size=a.heap.size:=⟨Below.trans h (Gi.below hu hb),hu.size⟩
theorem oG{p:Nat->Prop}{w a c:World}{b:Nat}(h:CS p w a)(hu:Gi b a c)(hb:p b∨w.heap.size<=b):CS p w c∧c.heap.size=a.heap.size:=⟨CS.upd h hu hb,hu.size⟩
/-! ## What keeps slices apart -/
abbrev Nb(v:Value)(b:Nat):Prop:=∀g,v.ownBlock=some g->g≠b
abbrev Ns(v:Value)(lo hi:Nat):Prop:=∀g,v.ownBlock=some g->g<lo∨hi<=g
abbrev No(v u:Value):Prop:=∀g q,v.ownBlock=some g->u.ownBlock=some q->g≠q
abbrev Bd(v:Value)(lo hi:Nat):Prop:=∀q,v.ownBlock=some q->lo<=q∧q<hi
section
variable {v v' u:Value} {b lo hi lo' hi':Nat} {w w':World}
theorem Nb.of(h:Bd v lo hi)(k:b<lo∨hi<=b:=by omega):Nb v b:=fun g hg=>by have:=h g hg;omega
theorem Ns.of(h:Bd v lo hi)(k:hi'<=lo∨hi<=lo':=by omega):Ns v lo' hi':=fun g hg=>by have:=h g hg;omega
theorem No.of(h:Bd v lo hi)(h':Bd u lo' hi')(k:hi<=lo'∨hi'<=lo:=by omega):No v u:=fun g q hg hq=>by have:=h g hg;have:=h' q hq;omega
theorem No.symm(h:No v u):No u v:=fun g q hg hq e=>h q g hq hg e.symm
theorem Gb(h:BN w w' v v')(k:Nb v b)(hb:b<w.heap.size:=by omega):Nb v' b:=BN.sepP (p:=fun g=>g≠b) h k (fun g hg=>by omega)
theorem Gs(h:BN w w' v v')(k:Ns v lo hi)(hb:hi<=w.heap.size:=by omega):Ns v' lo hi:=BN.sepP (p:=fun g=>g<lo∨hi<=g) h k (fun g hg=>by omega)
theorem Gn(h:BN w w' v v')(k:No v u)(hb:Bd u lo hi)(hh:hi<=w.heap.size:=by omega):No v' u:=fun g q hg hq=>
 BN.sepP (p:=fun g=>∀q,u.ownBlock=some q->g≠q) h (fun g hg q hq=>k g q hg hq) (fun g hg q hq=>by have:=hb q hq;omega) g hg q hq
theorem Ge(h:AJ w w'){w2:World}(hg:BN w' w2 v v')(k:Bd v lo hi)(hl:w.heap.size<=lo:=by omega):AJ w w2∧w'.heap.size<=w2.heap.size:=⟨Below.trans h (BN.low hg (fun g hg=>by have:=k g hg;omega) h.size),hg.1.size⟩
theorem MX{α:Type}{c:Bp α}{B:Nat}{S:Nat->Prop}{e:TypeId}{zs:List α}(h:BN w w' v v')(ho:AB c w' B S e zs v')(k:Bd v lo hi)(hl:lo<=w.heap.size:=by omega)(hh:hi<=w'.heap.size:=by omega):Bd v' lo w'.heap.size:=BN.bd h ho k hl hh
theorem AB.bd{α:Type}{c:Bp α}{B:Nat}{S:Nat->Prop}{e:TypeId}{zs:List α}(ho:AB c w B S e zs v):Bd v B w.heap.size:=ho.blk
end
end Go.Eng
namespace Go.Eng
open Go Go.RowKit
theorem AD.oh{α:Type}{c:Bp α}{w w':World}{lo H:Nat}{xs:List α}{v:Value}(h:AD c w (Iv lo H) xs v)(hH:H<=w.heap.size)(he:AJ w w'):AD c w' (Iv lo H) xs v:=h.old he hH
theorem AD.ph{α:Type}{c:Bp α}{w w':World}{H:Nat}{xs:List α}{v:Value}(h:AD c w (Iv 0 H) xs v)(hH:H<=w.heap.size)(he:AJ w w'):AD c w' (Iv 0 w'.heap.size) xs v:=(h.old he hH).wide (Nat.le_refl _) (Nat.le_trans hH he.size)
end Go.Eng
namespace Go.Eng
open Go Go.RowKit
/-! ## Regions whose order is drawn, with guards -/
section
variable {P:Program} {N:Nat} {ops:Array Oper} {Q:Exit -> Act -> World -> Prop} {n:Nat} {K:KL} {w w0:World} {f:Nat} {listed:Array Bool} {p:Nat -> Prop}
theorem Pa{o:Oper}{g:Gd}(h:FD N ops K o=g)(hg:g≠ .no):∀t,o.dst=some t->Nat.blt t N=true:=Bw.h (Jq h hg)
theorem HLy{o:Oper}{v:Value}(i:Nat)(hh:DB ops n=true)(hi:ops[i]? =some o)(hc:(Nat.blt i n&&Region.free .any ops listed i&&(Region.ready .any ops listed).contains i)=true)(h0:FD N ops K o= .yes)
 (h:Df P N K o w0 v) (k:HL P N ops n (noPan Q) w0 f (listed.setIfInBounds i true) (BC K o.dst v) w):HL P N ops n (noPan Q) w0 (f+1) listed K w:=by
 intro inv hx a hK
 obtain⟨hs,hn,ht⟩:=DB.spec hh
 simp only [Bool.and_eq_true]at hc
 have hin:i<n:=by have h2:=hc.1.1;simp [Nat.blt]at h2;omega
 have hr:i∈Region.ready .any ops listed:=by simpa using hc.2
 refine CL.first hi hin hn (Region.noSelect_spec hs) ht (fun c a w h=>h.elim) f listed a w inv (Region.free_spec hi hc.1.2) hr ?_ hx (k (inv.set hr hin) hx _ (hK.put (Pa h0 (by simp))))
 exact .inl ⟨GL h0 hK,fun w' hw'=>h a hK w' hw'⟩
theorem yN{o:Oper}{Ψ:Value->Prop}(i:Nat)(hh:DB ops n=true)(hi:ops[i]? =some o)(hc:(Nat.blt i n&&Region.free .any ops listed i&&(Region.ready .any ops listed).contains i)=true)(h0:FD N ops K o= .yes)
 (h:YE P N K o w0 Ψ) (k:∀v,Ψ v->HL P N ops n (noPan Q) w0 f (listed.setIfInBounds i true) (BC K o.dst v) w):HL P N ops n (noPan Q) w0 (f+1) listed K w:=by
 obtain⟨v,h1,h2⟩:=h;exact HLy i hh hi hc h0 h1 (k v h2)
theorem HLk{o:Oper}(i:Nat)(hh:DB ops n=true)(hi:ops[i]? =some o)(hc:(Nat.blt i n&&Region.free .any ops listed i&&(Region.ready .any ops listed).contains i)=true)(h0:FD N ops K o= .skip)
 (k:HL P N ops n (noPan Q) w0 f (listed.setIfInBounds i true) (BC K o.dst undef) w):HL P N ops n (noPan Q) w0 (f+1) listed K w:=by
 intro inv hx a hK
 obtain⟨hs,hn,ht⟩:=DB.spec hh
 simp only [Bool.and_eq_true]at hc
 have hin:i<n:=by have h2:=hc.1.1;simp [Nat.blt]at h2;omega
 have hr:i∈Region.ready .any ops listed:=by simpa using hc.2
 refine CL.first hi hin hn (Region.noSelect_spec hs) ht (fun c a w h=>h.elim) f listed a w inv (Region.free_spec hi hc.1.2) hr ?_ hx (k (inv.set hr hin) hx _ (hK.put (Pa h0 (by simp))))
 exact .inr ⟨NJ h0 hK,rfl⟩
theorem HLe{o:Oper}{R:Value->World->Prop}(i:Nat)(hi:ops[i]? =some o)(hin:Nat.blt i n=true)(hr:Region.ready .any ops listed=[i])(h0:FD N ops K o= .yes)
 (h:Fx P N K o w R) (k:∀v w',R v w'->AJ w0 w'∧HL P N ops n (noPan Q) w0 f (listed.setIfInBounds i true) (BC K o.dst v) w'):HL P N ops n (noPan Q) w0 (f+1) listed K w:=by
 intro inv hx a hK
 have hin':i<n:=by have h2:=hin;simp [Nat.blt]at h2;omega
 have hri:i∈Region.ready .any ops listed:=by rw [hr];simp
 refine⟨fun h0=>(by rw [h0]at hr;cases hr),fun j hj=>?_⟩
 rw [hr]at hj
 have hji:j=i:=by simpa using hj
 subst hji
 unfold wpOp
 simp only [hi]
 rw [if_pos (GL h0 hK)]
 refine .inl (h a hK _ _ fun u w' hR=>?_)
 obtain⟨h1,h2⟩:=k u w' hR
 exact⟨fun _=>h1,h2 (inv.set hri hin') h1 _ (hK.put (Pa h0 (by simp)))⟩
theorem WC.heldD{id:Nat}{l:List Oper}(n:Nat)(hm:P.follows .mixedOrders=true)(hh:DB l.toArray n=true)
 (h:∀w',AJ w w'->DB l.toArray n=true->HL P N l.toArray n (noPan Q) w' l.length (Array.replicate l.length false) K w'):WC P N (.region id l.toArray true) Q K w:=WC.held n hm fun w' hx=>h w' hx hh
def eB(ops:Array Oper)(n:Nat):List Nat->Array Bool->Bool
 |[],_=>true
 |i::is,listed=>Nat.blt i n&&Region.free .any ops listed i&&(Region.ready .any ops listed).contains i&&eB ops n is (listed.setIfInBounds i true)
end
section
variable (P:Program) (N:Nat) (ops:Array Oper) (n:Nat) (Q:Exit -> Act -> World -> Prop) (w0:World)
def ZP:List Nat->Nat->Array Bool->KL->World->Prop
 |[]=>fun f listed K w=>HL P N ops n (noPan Q) w0 f listed K w
 |i::is=>fun f listed K w=>match f with
  |0=>False
  |f+1=>match ops[i]? with
   |none=>False
   |some o=>match FD N ops K o with
    | .yes=>match yq K o.op with
     |some v=>ZP is f (listed.setIfInBounds i true) (BC K o.dst v) w
     |none=>False
    | .skip=>ZP is f (listed.setIfInBounds i true) (BC K o.dst undef) w
    | .no=>False
end
section
variable {P:Program} {N:Nat} {ops:Array Oper} {Q:Exit -> Act -> World -> Prop} {n:Nat} {w w0:World}
theorem Hr(hh:DB ops n=true):∀(is:List Nat) {f:Nat} {listed:Array Bool} {K:KL},eB ops n is listed=true->ZP P N ops n Q w0 is f listed K w->HL P N ops n (noPan Q) w0 f listed K w
 |[],_,_,_,_,h=>h
 |i::is,0,listed,K,_,h=>h.elim
 |i::is,f+1,listed,K,hc,h=>by
  simp only [eB,Bool.and_eq_true]at hc
  have hc':(Nat.blt i n&&Region.free .any ops listed i&&(Region.ready .any ops listed).contains i)=true:=by simp only [Bool.and_eq_true];exact hc.1
  simp only [ZP]at h
  split at h
  ·exact h.elim
  ·rename_i o hi
   split at h
   ·rename_i hg
    split at h
    ·rename_i v hv;exact HLy i hh hi hc' hg (Lo hv) (Hr hh is hc.2 h)
    ·exact h.elim
   ·rename_i hg;exact HLk i hh hi hc' hg (Hr hh is hc.2 h)
   ·exact h.elim
end
end Go.Eng
