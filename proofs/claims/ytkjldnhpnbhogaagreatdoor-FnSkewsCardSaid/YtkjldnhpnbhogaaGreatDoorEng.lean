/- The proof engine: what a function of the model computes, said by a plain function; no condition. -/
import Derived.WalkKit
import Derived.WalkSpells
import Derived.WalkLawsBesides
import Derived.Deep.QuietTactic
import Derived.Deep.Slices
import Derived.StillTailTactics
import Derived.OrdersHeld
import Derived.StillTail
import Derived.Carry
import Derived.ChangeSame
import Derived.Handed
import Derived.WideShapes
import Derived.ProofKit
import Derived.Laws.Cover3
import Derived.Laws.BytesString
import Derived.LaidLaws
import Derived.Stop.Joined
import Derived.Laws.StructEq
import Derived.KernelRfl
set_option linter.all false
namespace Go.Eng
open Go Go.RowKit
/-! ## Frames: what is known of the slots -/
abbrev KL:=List (Nat×Value)
def kl:KL->Nat->Option Value
 |[],_=>none
 |(s,v)::K,t=>bif Nat.beq s t then some v else kl K t
structure Kn(N:Nat)(K:KL)(a:Act):Prop where
 df:a.defers=[]
 sz:N<=a.tmps.size
 get:∀t v,kl K t=some v->a.tmps[t]? =some v
def CK(K:KL):Operand->Option Value
 | .tmp t=>kl K t
 | .const v=>some v
 | .func f=>some (.func (.func f) #[] #[])
 |_=>none
theorem Kn.ev{N K a x v}(h:Kn N K a)(hx:CK K x=some v):a.eval x=v:=by
 cases x with
 |tmp t=>have:=h.get t v hx;simp [Act.eval,Array.getD_eq_getD_getElem?,this]
 |const c=>simpa [Act.eval,CK] using hx
 |func f=>simpa [Act.eval,CK] using hx
 |global g=>simp [CK]at hx
def Do(K:KL):Option Tmp->Value->KL
 |some d,v=>(d,v)::K
 |none,_=>K
theorem Kn.put{N K a v}{d:Option Tmp}(h:Kn N K a)(hd:∀t,d=some t->Nat.blt t N=true):Kn N (Do K d v) (a.put d v):=by
 cases d with
 |none=>exact h
 |some d=>
  have hdn:d<N:=by have:=hd d rfl;simpa [Nat.blt,Nat.succ_le_iff] using this
  refine⟨h.df,by simpa [Act.put] using h.sz,fun t u ht=>?_⟩
  have hsz:=h.sz
  simp only [Do,kl]at ht
  by_cases e:d=t
  ·subst e
   simp at ht
   subst ht
   have hlt:d<a.tmps.size:=Nat.lt_of_lt_of_le hdn hsz
   simp [Act.put,hlt]
  ·have hb:Nat.beq d t=false:=by cases hq:Nat.beq d t with
   |false=>rfl
   |true=>exact absurd (Nat.eq_of_beq_eq_true hq) e
   rw [hb]at ht
   have:=h.get t u (by simpa using ht)
   simp [Act.put,Array.getElem?_setIfInBounds,e,this]
def Vf:KL->KL->Prop
 |[],_=>True
 |(t,v)::K',K=>kl K t=some v∧Vf K' K
theorem Kn.weaken{N K K' a}(h:Kn N K a)(hk:Vf K' K):Kn N K' a:=by
 refine⟨h.df,h.sz,fun t v ht=>h.get t v ?_⟩
 induction K' with
 |nil=>simp [kl]at ht
 |cons p K' ih=>
  obtain⟨s,u⟩:=p
  obtain⟨h1,h2⟩:=hk
  simp only [kl]at ht
  by_cases e:s=t
  ·subst e;simp at ht;subst ht;exact h1
  ·have hb:Nat.beq s t=false:=by cases hq:Nat.beq s t with
   |false=>rfl
   |true=>exact absurd (Nat.eq_of_beq_eq_true hq) e
   rw [hb]at ht
   exact ih h2 (by simpa using ht)
/-! ## Worlds -/
abbrev AS(w w':World):Prop:=Below w.heap.size w w'
theorem AS.refl(w:World):AS w w:=Below.refl _ _
theorem AS.trans{a b c:World}(h:AS a b)(k:AS b c):AS a c:=Below.trans h (k.mono h.size)
theorem AS.drew(w:World):AS w w.drew:=(Below.refl _ _).drew
theorem AS.alloc(w:World)(o:Obj):AS w (w.alloc o):=(Below.refl _ _).alloc (Nat.le_refl _) o
/-! ## Text order -/
section
variable {P:Program} {N:Nat}
def TL(P:Program)(N:Nat)(ops:Array Oper)(Q:Exit->Act->World->Prop)(l:List Oper)(K:KL)(w:World):Prop:=
 ∀a,Kn N K a->wpList P ops Q l a w
def WC(P:Program)(N:Nat)(c:Code)(Q:Exit->Act->World->Prop)(K:KL)(w:World):Prop:=
 ∀a,Kn N K a->c.wp P Q a w
def EH(P:Program)(N:Nat)(K:KL)(o:Oper)(w:World)(v:Value):Prop:=
 ∀a,Kn N K a->∀w',AS w w'->(execOp a.eval o).run P w'= .ok (.value v) w'
def JY(P:Program)(N:Nat)(K:KL)(o:Oper)(w:World)(R:Value->World->Prop):Prop:=
 ∀a,Kn N K a->∀(Kt:Act->World->Prop) Q,(∀v w',R v w'->Kt (a.put o.dst v) w')->o.wp P a w Kt Q
def DD(N:Nat):Option Tmp->Bool
 |none=>true
 |some d=>Nat.blt d N
theorem DD.h{N:Nat}{d:Option Tmp}(h:DD N d=true):∀t,d=some t->Nat.blt t N=true:=by
 intro t e;subst e;exact h
theorem EH.eff{K o w v}(h:EH P N K o w v):JY P N K o w (fun u w'=>u=v∧w'=w):=by
 intro a hK Kt Q hk
 unfold Oper.wp
 rw [h a hK w (AS.refl w)]
 exact hk v w ⟨rfl,rfl⟩
theorem TL.yld{ops Q o rest K w v}(hg:o.guard=none)(hd:DD N o.dst=true)(h:EH P N K o w v)
 (k:TL P N ops Q rest (Do K o.dst v) w):TL P N ops Q (o::rest) K w:=by
 intro a hK
 refine wpList_plain hg fun Kt hKt=>?_
 exact h.eff a hK Kt Q fun u w' ⟨e1,e2⟩=>by subst e1 e2;exact hKt _ _ (k _ (hK.put (DD.h hd)))
theorem TL.eff{ops Q o rest K w R}(hg:o.guard=none)(hd:DD N o.dst=true)(h:JY P N K o w R)
 (k:∀v w',R v w'->TL P N ops Q rest (Do K o.dst v) w'):TL P N ops Q (o::rest) K w:=by
 intro a hK
 refine wpList_plain hg fun Kt hKt=>?_
 exact h a hK Kt Q fun u w' hR=>hKt _ _ (k u w' hR _ (hK.put (DD.h hd)))
theorem TL.nil{ops Q K w}(h:∀a,Kn N K a->Q .normal a w):TL P N ops Q [] K w:=fun a hK=>h a hK
/-! ## Operations -/
section ops
variable {K:KL} {o:Oper} {w:World}
theorem UJ{x v}(ho:o.op= .move x)(hx:CK K x=some v):EH P N K o w v:=by
 intro a hK w' _
 simp [execOp,ho,hK.ev hx]
theorem Pu{x v}(ho:o.op= .assign x)(hx:CK K x=some v):EH P N K o w v:=by
 intro a hK w' _
 simp [execOp,ho,hK.ev hx]
theorem WQ{t x y u k m n}(ho:o.op= .binOp .add t x y u)(hx:CK K x=some (.int k m))(hy:CK K y=some (.int k n)):EH P N K o w (.int k (k.wrap (m+n))):=by
 intro a hK w' _
 simp [execOp,ho,hK.ev hx,hK.ev hy,eqGuard,binOp,Op.intArith]
theorem WB{t x y u k m n}(ho:o.op= .binOp .sub t x y u)(hx:CK K x=some (.int k m))(hy:CK K y=some (.int k n)):EH P N K o w (.int k (k.wrap (m-n))):=by
 intro a hK w' _
 simp [execOp,ho,hK.ev hx,hK.ev hy,eqGuard,binOp,Op.intArith]
theorem WZ{t x y u k m n}(ho:o.op= .binOp .mul t x y u)(hx:CK K x=some (.int k m))(hy:CK K y=some (.int k n)):EH P N K o w (.int k (k.wrap (m*n))):=by
 intro a hK w' _
 simp [execOp,ho,hK.ev hx,hK.ev hy,eqGuard,binOp,Op.intArith]
theorem RR{t x y u k m n}(ho:o.op= .binOp .quo t x y u)(hx:CK K x=some (.int k m))(hy:CK K y=some (.int k n))(h0:n≠0):EH P N K o w (.int k (k.wrap (m.tdiv n))):=by
 intro a hK w' _
 simp [execOp,ho,hK.ev hx,hK.ev hy,eqGuard,binOp,Op.intDiv,h0]
theorem KE{t x y u k m n}(ho:o.op= .binOp .rem t x y u)(hx:CK K x=some (.int k m))(hy:CK K y=some (.int k n))(h0:n≠0):EH P N K o w (.int k (m.tmod n)):=by
 intro a hK w' _
 simp [execOp,ho,hK.ev hx,hK.ev hy,eqGuard,binOp,Op.intDiv,h0]
theorem Wp{t x y u k m n}(ho:o.op= .binOp .lss t x y u)(hx:CK K x=some (.int k m))(hy:CK K y=some (.int k n)):EH P N K o w (.bool (decide (m<n))):=by
 intro a hK w' _
 simp [execOp,ho,hK.ev hx,hK.ev hy,eqGuard,binOp,Op.intCmp]
theorem Wj{t x y u k m n}(ho:o.op= .binOp .leq t x y u)(hx:CK K x=some (.int k m))(hy:CK K y=some (.int k n)):EH P N K o w (.bool (decide (m<=n))):=by
 intro a hK w' _
 simp [execOp,ho,hK.ev hx,hK.ev hy,eqGuard,binOp,Op.intCmp]
theorem Vr{t x y u k m n}(ho:o.op= .binOp .gtr t x y u)(hx:CK K x=some (.int k m))(hy:CK K y=some (.int k n)):EH P N K o w (.bool (decide (m>n))):=by
 intro a hK w' _
 simp [execOp,ho,hK.ev hx,hK.ev hy,eqGuard,binOp,Op.intCmp]
theorem Vy{t x y u k m n}(ho:o.op= .binOp .geq t x y u)(hx:CK K x=some (.int k m))(hy:CK K y=some (.int k n)):EH P N K o w (.bool (decide (m>=n))):=by
 intro a hK w' _
 simp [execOp,ho,hK.ev hx,hK.ev hy,eqGuard,binOp,Op.intCmp]
theorem WP{t x y u k m n}(ho:o.op= .binOp .eql t x y u)(hx:CK K x=some (.int k m))(hy:CK K y=some (.int k n)):EH P N K o w (.bool (m==n)):=by
 intro a hK w' _
 simp [execOp,ho,hK.ev hx,hK.ev hy,eqGuard,binOp,Op.intCmp]
theorem Vm{t x y u k m n}(ho:o.op= .binOp .neq t x y u)(hx:CK K x=some (.int k m))(hy:CK K y=some (.int k n)):EH P N K o w (.bool (m !=n)):=by
 intro a hK w' _
 simp [execOp,ho,hK.ev hx,hK.ev hy,eqGuard,binOp,Op.intCmp]
theorem Na{t m n}{w:World}(ht:P.underlying t=some .bool):(Op.equal t (.bool m) (.bool n)).run P w= .ok (m==n) w:=by
 simp only [Op.equal,Op.maxDepth]
 rw [show(10000:Nat)=9999+1 from rfl,Op.equalIn]
 simp [run_underlying ht]
theorem Vn{t x y u m n}(ho:o.op= .binOp .eql t x y u)(ht:P.underlying t=some .bool)(hx:CK K x=some (.bool m))(hy:CK K y=some (.bool n)):EH P N K o w (.bool (m==n)):=by
 intro a hK w' _
 simp [execOp,ho,hK.ev hx,hK.ev hy,eqGuard,binOp,Na ht]
theorem RJ{t x y u m n}(ho:o.op= .binOp .neq t x y u)(ht:P.underlying t=some .bool)(hx:CK K x=some (.bool m))(hy:CK K y=some (.bool n)):EH P N K o w (.bool (m !=n)):=by
 intro a hK w' _
 simp [execOp,ho,hK.ev hx,hK.ev hy,eqGuard,binOp,Na ht,bne]
theorem Va{t x y u m n}(ho:o.op= .binOp .eql t x y u)(hx:CK K x=some (.string m))(hy:CK K y=some (.string n)):EH P N K o w (.bool (m.toList==n.toList)):=by
 intro a hK w' _
 simp [execOp,ho,hK.ev hx,hK.ev hy,eqGuard,binOp,Op.stringOp]
theorem Wb{t x y u m n}(ho:o.op= .binOp .neq t x y u)(hx:CK K x=some (.string m))(hy:CK K y=some (.string n)):EH P N K o w (.bool (m.toList !=n.toList)):=by
 intro a hK w' _
 simp [execOp,ho,hK.ev hx,hK.ev hy,eqGuard,binOp,Op.stringOp,bne]
theorem Vl{t x b}(ho:o.op= .unOp .not t x)(hx:CK K x=some (.bool b)):EH P N K o w (.bool (!b)):=by
 intro a hK w' _
 simp [execOp,ho,hK.ev hx,Op.unary]
theorem Vo{t x k m}(ho:o.op= .unOp .neg t x)(hx:CK K x=some (.int k m)):EH P N K o w (.int k (k.wrap (0-m))):=by
 intro a hK w' _
 simp [execOp,ho,hK.ev hx,Op.unary,Op.intArith]
theorem Qh{c x y b u}(ho:o.op= .pick c x y)(hc:CK K c=some (.bool b))(hb:b=true)(hx:CK K x=some u):EH P N K o w u:=by
 intro a hK w' _
 subst hb
 simp [execOp,ho,hK.ev hc,hK.ev hx,asBool]
theorem QS{c x y b u}(ho:o.op= .pick c x y)(hc:CK K c=some (.bool b))(hb:b=false)(hx:CK K y=some u):EH P N K o w u:=by
 intro a hK w' _
 subst hb
 simp [execOp,ho,hK.ev hc,hK.ev hx,asBool]
theorem KH{t x base n c e}(ho:o.op= .call { callee:=.builtin .len,args:=#[x],argTypes:=#[t] })(ht:P.underlying t=some (.slice e))(hx:CK K x=some (.slice base n c)):EH P N K o w (.int .i64 n):=by
 intro a hK w' _
 simp [execOp,ho,resolve,invoke,builtin,hK.ev hx,Builtin.len_,run_underlying ht,goInt]
theorem Lg{t x s}(ho:o.op= .call { callee:=.builtin .len,args:=#[x],argTypes:=#[t] })(ht:P.underlying t=some .string)(hx:CK K x=some (.string s)):EH P N K o w (.int .i64 s.size):=by
 intro a hK w' _
 simp [execOp,ho,resolve,invoke,builtin,hK.ev hx,run_len_string,ht,goInt]
theorem Pg{x i vs u}(ho:o.op= .extract x i)(hx:CK K x=some (.tuple vs))(hi:vs[i]? =some u):EH P N K o w u:=by
 intro a hK w' _
 simp [execOp,ho,hK.ev hx,Instr.extract,hi]
theorem GB{ts x y k m n}(ho:o.op= .call { callee:=.builtin .min,args:=#[x,y],argTypes:=ts })(hx:CK K x=some (.int k m))(hy:CK K y=some (.int k n)):EH P N K o w (.int k (min m n)):=by
 intro a hK w' _
 simp [execOp,ho,resolve,invoke,builtin,hK.ev hx,hK.ev hy,run_min_int2]
 split<;>omega
theorem FH{ts x y k m n}(ho:o.op= .call { callee:=.builtin .max,args:=#[x,y],argTypes:=ts })(hx:CK K x=some (.int k m))(hy:CK K y=some (.int k n)):EH P N K o w (.int k (max m n)):=by
 intro a hK w' _
 simp [execOp,ho,resolve,invoke,builtin,hK.ev hx,hK.ev hy,run_max_int2]
 split<;>omega
theorem Hw{s t x k j m}(ho:o.op= .convert s t x)(hs:P.underlying s=some (.int j))(ht:P.underlying t=some (.int k))(hx:CK K x=some (.int j m)):EH P N K o w (.int k (k.wrap m)):=by
 intro a hK w' _
 simp [execOp,ho,hK.ev hx,convert,run_underlying hs,run_underlying ht,Conv.intToInt]
end ops
end
end Go.Eng
namespace Go.Eng
open Go Go.RowKit
section
variable {P:Program} {N:Nat}
/-! ## Memory -/
theorem Eo{w w':World}{b off:Nat}(e:w'.heap[b]? =w.heap[b]?):w'.frozen? ⟨b,off,none⟩=w.frozen? ⟨b,off,none⟩:=by simp only [World.frozen?,e]
def AP(w:World)(b off:Nat)(us:List Value):Prop:=∀j u,us[j]? =some u->w.cell? ⟨b,off+j,none⟩=some u∧w.frozen? ⟨b,off+j,none⟩=false
theorem AP.block{w w':World}{b off us}(h:AP w b off us)(e:w'.heap[b]? =w.heap[b]?):AP w' b off us:=
 fun j u hu=>⟨by rw [World.cell?_of_block (w:=w) e];exact(h j u hu).1,by rw [Eo e];exact(h j u hu).2⟩
theorem AP.below{w w':World}{B b off us}(h:AP w b off us)(hb:Below B w w')(hlt:b<B):AP w' b off us:=
 h.block (hb.block b hlt)
theorem AP.ext{w w':World}{b off us}(h:AP w b off us)(he:AS w w'):AP w' b off us:=
 fun j u hu=>h.block (he.block b (World.block_lt_of_cell? _ _ (h j u hu).1)) j u hu
def Ak(w:World)(b:Nat)(us:List Value)(t:TypeId):Prop:=w.heap[b]? =some (.cells us.toArray t (0,0))
theorem Ak.lt{w:World}{b us t}(h:Ak w b us t):b<w.heap.size:=(Array.getElem?_eq_some_iff.1 h).1
theorem Ak.cells{w:World}{b us t}(h:Ak w b us t):AP w b 0 us:=fun j u hu=>by
 refine⟨?_,by unfold Ak at h;simp [World.frozen?,h]⟩
 rw [Nat.zero_add,cell_of_row w b j _ t _ h];simpa using hu
theorem Ak.ext{w w':World}{b us t}(h:Ak w b us t)(he:AS w w'):Ak w' b us t:=by
 unfold Ak;rw [he.block b h.lt];exact h
structure GU(b:Nat)(w w':World):Prop where
 os:w'.os=w.os
 tape:w'.tape=w.tape
 output:w'.output=w.output
 size:w'.heap.size=w.heap.size
 block:∀k,k≠b->w'.heap[k]? =w.heap[k]?
theorem GU.below{b B:Nat}{w w':World}(h:GU b w w')(hB:B<=b):Below B w w':=
 ⟨h.os,h.tape,h.output,by rw [h.size];exact Nat.le_refl _,fun k hk=>h.block k (by omega)⟩
theorem Ak.upd{w w':World}{b c us t}(h:Ak w b us t)(he:GU c w w')(hne:b≠c):Ak w' b us t:=by
 unfold Ak;rw [he.block b hne];exact h
theorem AP.upd{w w':World}{b c off us}(h:AP w b off us)(he:GU c w w')(hne:b≠c):AP w' b off us:=
 h.block (he.block b hne)
theorem GU.setRow(w:World)(b:Nat)(cs:Array Value):GU b w (w.setRow b cs):=
 ⟨rfl,rfl,rfl,by simp,fun k hk=>setRow_other w b k cs hk⟩
def Am(P:Program)(t f:Nat):Option Nat:=
 match P.underlying t with
 |some (.struct fs)=>match fs[f]? with
  |some fd=>match P.info? fd.type with
   |some i=>if i.size=0 then none else some fd.offset
   |none=>none
  |none=>none
 |_=>none
def DN(P:Program)(t:Nat):Option Bool:=
 match P.underlying t with
 |some (.struct _)|some (.array _ _)=>some true
 |some _=>some false
 |none=>none
def BX(P:Program)(t:Nat):Option Nat:=(P.info? t).map (·.size)
def Du(P:Program)(t:Nat):Option (List Value):=(P.info? t).bind fun i=>i.zero.map (·.cells.toList)
theorem Ch(b off n:Nat):(⟨b,off,none⟩:Addr).add n=⟨b,off+n,none⟩:=by
 unfold Addr.add;split<;>simp_all
section
variable {K:KL} {o:Oper} {w:World}
theorem Nv{t x f b off fo}(ho:o.op= .fieldAddr t x f)(hf:Am P t f=some fo)(hx:CK K x=some (.pointer (some ⟨b,off,none⟩))):
 EH P N K o w (.pointer (some ⟨b,off+fo,none⟩)):=by
 intro a hK w' _
 unfold Am at hf
 split at hf
 ·rename_i fs hu
  split at hf
  ·rename_i fd hfd
   split at hf
   ·rename_i i hi
    split at hf
    ·cases hf
    ·rename_i hs
     injection hf with hf
     simp [execOp,ho,hK.ev hx,Instr.fieldAt,run_underlying hu,hfd,Instr.sureAddr,fieldPlace,sizeOf,typeInfo,hi,hs,Ch,hf]
   ·cases hf
  ·cases hf
 ·cases hf
theorem KJ{t b}(h:DN P t=some b)(w:World):(isAgg t).run P w= .ok b w:=by
 unfold DN at h
 unfold isAgg
 split at h
 ·rename_i hu;injection h with h;subst h;simp [run_underlying hu]
 ·rename_i hu;injection h with h;subst h;simp [run_underlying hu]
 ·rename_i d h1 h2 hu;injection h with h;subst h
  rw [Sem.run_bind,run_underlying hu]
  cases d<;>first|rfl|exact absurd rfl (h1 _)|exact absurd rfl (h2 _ _)
 ·cases h
theorem OG{t x b o0 off us u}(j:Nat)(ho:o.op= .load t x)(ha:DN P t=some false)(hx:CK K x=some (.pointer (some ⟨b,off,none⟩)))(hcs:AP w b o0 us)(hj:off=o0+j)(hu:us[j]? =some u):EH P N K o w u:=by
 have hc:w.cell? ⟨b,off,none⟩=some u:=by rw [hj];exact(hcs j u hu).1
 intro a hK w' he
 have hc':w'.cell? ⟨b,off,none⟩=some u:=by rw [he.cell (World.block_lt_of_cell? _ _ hc)];exact hc
 simp [execOp,ho,hK.ev hx,Instr.loadAt,Instr.sureAddr,loadVar,Sem.run_bind,KJ ha,hc']
theorem AP.sub{w:World}{b off:Nat}{us:List Value}(h:AP w b off us)(i n:Nat):AP w b (off+i) ((us.drop i).take n):=fun j u hu=>by
 rw [List.getElem?_take]at hu
 split at hu
 ·rw [List.getElem?_drop]at hu;rw [Nat.add_assoc];exact h (i+j) u hu
 ·cases hu
theorem OD{t x b off us}(ho:o.op= .load t x)(ha:DN P t=some true)(hx:CK K x=some (.pointer (some ⟨b,off,none⟩)))(hc:AP w b off us)(hn:BX P t=some us.length):
 EH P N K o w (.agg us.toArray):=by
 intro a hK w' he
 have hc':=hc.ext he
 obtain⟨i,hi,hs⟩:=Option.map_eq_some_iff.1 hn
 have hl:(loadCells ⟨b,off,none⟩ us.length).run P w'= .ok us.toArray w':=
  run_loadCells_list (P:=P) w' ⟨b,off,none⟩ us (fun j v hv=>by rw [Ch];exact(hc' j v hv).1)
 simp [execOp,ho,hK.ev hx,Instr.loadAt,Instr.sureAddr,loadVar,Sem.run_bind,KJ ha,sizeOf,typeInfo,hi,hs,hl]
theorem Ny{t x y b off v cur e}(ho:o.op= .store t x y)(hx:CK K x=some (.pointer (some ⟨b,off,none⟩)))(hy:CK K y=some v)(hb:Ak w b cur e)(hn:BX P t=some v.cells.toList.length)
 (h1:v.cells.toList.all Value.oneCell'=true) (hfit:Nat.ble (off+v.cells.toList.length) cur.length=true):
 JY P N K o w (fun _ w'=>GU b w w'∧Ak w' b (cur.take off++v.cells.toList++cur.drop (off+v.cells.toList.length)) e):=by
 intro a hK Kt Q hk
 obtain⟨i,hi,hs⟩:=Option.map_eq_some_iff.1 hn
 have hfit:=Nat.le_of_ble_eq_true hfit
 have hst:=run_storeCells_at P b off e v.cells.toList 0 cur.toArray w hb (by simpa using hfit) (List.all_eq_true.1 h1)
 simp only [Nat.add_zero]at hst
 unfold Oper.wp
 have hr:(execOp a.eval o).run P w= .ok .skip (w.setRow b (cur.take off++v.cells.toList++cur.drop (off+v.cells.toList.length)).toArray):=by
  simp [execOp,ho,hK.ev hx,hK.ev hy,Instr.storeAt,Instr.sureAddr,storeVar,Sem.run_bind,sizeOf,typeInfo,hi,hs]at hst ⊢
  rw [hst]
  simp
 rw [hr]
 exact hk _ _ ⟨GU.setRow _ _ _,by unfold Ak;exact setRow_heap w b _ _ e _ hb⟩
def Lx(w w':World)(b:Nat)(us:List Value)(t:TypeId):Prop:=b=w.heap.size∧w'.heap.size=w.heap.size+1∧AS w w'∧Ak w' b us t
theorem Lx.of(w:World)(us:List Value)(t:TypeId):Lx w (w.alloc (.cells us.toArray t)) w.heap.size us t:=
 ⟨rfl,by simp,AS.alloc _ _,heap_alloc_new w _⟩
theorem AI{t zs}(ho:o.op= .alloc t)(hz:Du P t=some zs):
 JY P N K o w (fun v w'=>∃b,v= .pointer (some ⟨b,0,none⟩)∧Lx w w' b zs t):=by
 intro a hK Kt Q hk
 unfold Du at hz
 obtain⟨i,hi,hz2⟩:=Option.bind_eq_some_iff.1 hz
 obtain⟨z,hz3,hz4⟩:=Option.map_eq_some_iff.1 hz2
 have hr:(execOp a.eval o).run P w= .ok (.value (.pointer (some ⟨w.heap.size,0,none⟩))) (w.alloc (.cells zs.toArray t)):=by
  subst hz4
  simp [execOp,ho,Instr.alloc,zeroValue,typeInfo,hi,hz3,newVar,newRow,newObj];simp [Sem.run,Result.andThen]
 unfold Oper.wp
 rw [hr]
 exact hk _ _ ⟨_,rfl,Lx.of w zs t⟩
theorem AZ{t x v}(ho:o.op= .box t x)(hx:CK K x=some v):
 JY P N K o w (fun u w'=>∃b,u= .pointer (some ⟨b,0,none⟩)∧Lx w w' b v.cells.toList t):=by
 intro a hK Kt Q hk
 have hr:(execOp a.eval o).run P w= .ok (.value (.pointer (some ⟨w.heap.size,0,none⟩))) (w.alloc (.cells v.cells.toList.toArray t)):=by
  simp [execOp,ho,hK.ev hx,Instr.box,newVar,newRow,newObj];simp [Sem.run,Result.andThen]
 unfold Oper.wp
 rw [hr]
 exact hk _ _ ⟨_,rfl,Lx.of w _ t⟩
/-! ## Calls -/
def Mp(K:KL):List Operand->Option (List Value)
 |[]=>some []
 |x::xs=>match CK K x,Mp K xs with|some v,some vs=>some (v::vs)|_,_=>none
theorem Kn.evs{K a}(h:Kn N K a):∀{xs vs},Mp K xs=some vs->xs.map a.eval=vs
 |[],vs,e=>by simp [Mp]at e;subst e;rfl
 |x::xs,vs,e=>by
  unfold Mp at e
  split at e
  ·rename_i v vs' h1 h2
   injection e with e;subst e
   simp [h.ev h1,h.evs h2]
  ·cases e
def BC(P:Program)(f:FuncId):Bool:=match P.funcs[f]? with|some fn=> !(fn.name== "runtime.NumGoroutine")&&fn.body.isSome|none=>false
theorem NH{f}(h:BC P f=true)(args:Array Value)(w:World):(callFunc f args).run P w= .ok (.enter f args) w:=by
 unfold BC at h
 split at h
 ·rename_i fn hf
  simp only [Bool.and_eq_true,Bool.not_eq_true']at h
  have hb:fn.body.isNone=false:=by cases hq:fn.body<;>simp_all
  have hb2:¬fn.body=none:=by intro e;simp [e]at hb
  have h1:¬fn.name= "runtime.NumGoroutine" :=by intro e;simp [e]at h
  simp [callFunc,hf,h1,hb2]
 ·cases h
def Dy(R:Value->World->Prop):Ending->World->Prop:=fun e w'=>∃v,e= .returned v∧R v w'
theorem UO{f args tys vs}{R:Value->World->Prop}(ho:o.op= .call { callee:=.value (.func f),args:=args,argTypes:=tys })(hf:BC P f=true)
 (ha:Mp K args.toList=some vs) (hc:Calls P f vs.toArray w (Dy R)):JY P N K o w R:=by
 intro a hK Kt Q hk
 have he:args.map a.eval=vs.toArray:=by
  have:=hK.evs ha
  apply Array.ext'
  simpa using this
 have hr:(execOp a.eval o).run P w= .ok (.enter f vs.toArray) w:=by
  simp [execOp,ho,resolve,Act.eval,Deferred.ofValue,invoke,he,NH hf]
 unfold Oper.wp
 rw [hr]
 exact hc.mono fun e w' ⟨v,he,hR⟩=>by subst he;exact hk _ _ hR
end
/-! ## Code -/
section
variable {Q:Exit -> Act -> World -> Prop} {K:KL} {w:World}
theorem WC.seq{x y:Code}(h:WC P N x (Exit.then (fun a' w'=>y.wp P Q a' w') Q) K w):WC P N (.seq x y) Q K w:=fun a hK=>wp_seq (h a hK)
theorem WC.region{id:Nat}{l:List Oper}(h:TL P N l.toArray Q l K w):WC P N (.region id l.toArray false) Q K w:=fun a hK=>wp_region_lit (h a hK)
theorem WC.block{id:Nat}{c:Code}(h:WC P N c (Exit.inBlock id Q) K w):WC P N (.block id c) Q K w:=fun a hK=>wp_block (h a hK)
theorem WC.skip(h:∀a,Kn N K a->Q .normal a w):WC P N .skip Q K w:=fun a hK=>wp_skip (h a hK)
theorem WC.exit{id:Nat}(h:∀a,Kn N K a->Q (.exit id) a w):WC P N (.exit id) Q K w:=fun a hK=>wp_exit (h a hK)
theorem WC.ret(h:∀a,Kn N K a->Q .ret a w):WC P N .ret Q K w:=fun a hK=>wp_ret (h a hK)
theorem WC.cond{c:Operand}{x y:Code}{t:Bool}(hc:CK K c=some (.bool t))(ht:t=true->WC P N x Q K w)(hf:t=false->WC P N y Q K w):WC P N (.cond c x y) Q K w:=
 fun a hK=>wp_cond_split (hK.ev hc) (fun h=>ht h a hK) (fun h=>hf h a hK)
theorem WC.weaken{c:Code}{K'}(hk:Vf K' K)(h:WC P N c Q K' w):WC P N c Q K w:=fun a hK=>h a (hK.weaken hk)
theorem WC.loop{c:Code}(I:Nat->Act->World->Prop)(m:Nat)(h0:∀a,Kn N K a->I m a w)
 (round:∀m a w,I m a w->c.wp P (Exit.then (fun a' w'=>∃m',m'<m∧I m' a' w') Q) a w):WC P N (.loop c) Q K w:=by
 intro a hK
 classical
 have key:∀a w,(∃m,I m a w)->∃m,I m a w∧∀m',I m' a w->m<=m':=by
  intro a w ⟨m,hm⟩
  induction m using Nat.strongRecOn with
  |_ m ih=>
   by_cases h:∃m',m'<m∧I m' a w
   ·obtain⟨m',h1,h2⟩:=h;exact ih m' h1 h2
   ·exact⟨m,hm,fun m' hm'=>Nat.le_of_not_lt fun hlt=>h ⟨m',hlt,hm'⟩⟩
 let μ:Act->World->Nat:=fun a w=>if h:∃m,I m a w then Classical.choose (key a w h)else 0
 have hμ:∀a w,(h:∃m,I m a w)->I (μ a w) a w∧∀m',I m' a w->μ a w<=m':=by
  intro a w h
  simp only [μ,dif_pos h]
  exact Classical.choose_spec (key a w h)
 refine wp_loop (fun a w=>∃m,I m a w) μ ⟨m,h0 a hK⟩ fun a w hI=>?_
 obtain⟨h1,h2⟩:=hμ a w hI
 refine Code.wp_mono ?_ (round _ a w h1)
 intro e a' w' hq
 cases e with
 |normal=>
  obtain⟨m',hlt,hm'⟩:=hq
  exact⟨⟨m',hm'⟩,Nat.lt_of_le_of_lt ((hμ a' w' ⟨m',hm'⟩).2 m' hm') hlt⟩
 |_=>exact hq
end
/-! ## Functions -/
def OE:Nat->List Value->KL
 |_,[]=>[]
 |i,v::vs=>(i,v)::OE (i+1) vs
theorem OA:∀(vs:List Value) (i t:Nat) (u:Value),kl (OE i vs) t=some u->i<=t∧vs[t-i]? =some u
 |[],_,_,_,h=>by simp [OE,kl]at h
 |v::vs,i,t,u,h=>by
  simp only [OE,kl]at h
  cases hq:Nat.beq i t with
  |true=>
   rw [hq]at h
   have:=Nat.eq_of_beq_eq_true hq
   subst this
   simpa using h
  |false=>
   rw [hq]at h
   obtain⟨h1,h2⟩:=OA vs (i+1) t u (by simpa using h)
   refine⟨by omega,?_⟩
   rw [show t-i=(t-(i+1))+1 by omega]
   simpa using h2
theorem UR{f:FuncId}{fn:Func}{c:Code}{vs:List Value}{w:World}{R:Ending->World->Prop}
 (hf:P.funcs[f]? =some fn) (hb:fn.body=some c) (hn:fn.ntmps=N) (h:WC P N c (bodyPost P fn R) (OE 0 vs) w):Calls P f vs.toArray w R:=by
 refine calls_of_wp hf hb (h _ ⟨rfl,?_,?_⟩)
 ·simp [hn];omega
 ·intro t v ht
  obtain⟨_,h2⟩:=OA vs 0 t v ht
  have hlt:t<vs.length:=by
   rcases Nat.lt_or_ge t vs.length with h|h
   ·exact h
   ·simp [h]at h2
  simp at h2
  rw [Array.getElem?_append_left (by simpa using hlt)]
  simpa using h2
def Mq(P:Program)(K:KL)(w:World):List ResultVar->List Value->Prop
 |[],[]=>True
 | .tmp t::rs,v::vs=>kl K t=some v∧Mq P K w rs vs
 | .cell p ty::rs,v::vs=>(∃b,kl K p=some (.pointer (some ⟨b,0,none⟩))∧(loadVar ty ⟨b,0,none⟩).run P w= .ok v w)∧Mq P K w rs vs
 |_,_=>False
def EQ:List Value->Value
 |[v]=>v
 |vs=>.tuple vs.toArray
def Pk(a:Act):ResultVar->Sem Value
 | .tmp t=>pure (a.tmps.getD t undef)
 | .cell p t=>do loadVar t (←asAddr (a.tmps.getD p undef))
theorem Fj{K a w}(h:Kn N K a):∀{rs vs},Mq P K w rs vs->(rs.mapM (Pk a)).run P w= .ok vs w
 |[],[],_=>by simp
 | .tmp t::rs,v::vs,⟨h1,h2⟩=>by
  have:=h.get t v h1
  have ih:=Fj h h2
  simp [Pk,Array.getD_eq_getD_getElem?,this,ih]
 | .cell p ty::rs,v::vs,⟨⟨b,h1,h3⟩,h2⟩=>by
  have:=h.get p _ h1
  have ih:=Fj h h2
  simp [Pk,Array.getD_eq_getD_getElem?,this,asAddr,h3,ih]
theorem Ov{fn:Func}{rs vs K w R}(hr:fn.results=rs.toArray)(ho:Mq P K w rs vs)(hR:R (.returned (EQ vs)) w):∀a,Kn N K a->bodyPost P fn R .ret a w:=by
 intro a hK
 refine bodyPost_ret (v:=EQ vs) ?_ hK.df hR
 have:=Fj (P:=P) hK ho
 have hfun:∀f:ResultVar->Sem Value,(∀r,f r=Pk a r)->(rs.mapM f).run P w= .ok vs w:=by
  intro f hf;rw [show f=Pk a from funext hf];exact this
 unfold results
 rw [hr,List.mapM_toArray]
 simp only [Sem.run_bind,Sem.run_map]
 rw [hfun _ (by intro r;cases r<;>rfl)]
 simp only [Result.andThen_ok,Sem.run_pure]
 match vs,ho with
 |[],_=>rfl
 |[v],_=>rfl
 |v::v'::vs,_=>simp [EQ]
end
end Go.Eng
namespace Go.Eng
open Go Go.RowKit
section
variable {P:Program} {N:Nat}
/-! ## Guards, cuts -/
def Lu(ops:Array Oper)(j:Nat):Option Tmp:=(ops[j]?).bind (·.dst)
theorem Kn.yielded{K a ops j t b}(h:Kn N K a)(hs:Lu ops j=some t)(hb:kl K t=some (.bool b)):yielded ops a.tmps j=some b:=by
 have:=h.get t _ hb
 unfold Lu at hs
 simp [Go.yielded,hs,this]
section
variable {ops:Array Oper} {Q:Exit -> Act -> World -> Prop} {o:Oper} {rest l:List Oper} {K:KL} {w:World}
theorem QN{K a j t b want}(h:Kn N K a)(hg:o.guard=some (j,want))(hs:Lu ops j=some t)(hb:kl K t=some (.bool b))(hw:b=want):Region.wanted o (yielded ops a.tmps)=true:=by
 subst hw;simp [Region.wanted,hg,h.yielded hs hb]
theorem SD{K a j t b want}(h:Kn N K a)(hg:o.guard=some (j,want))(hs:Lu ops j=some t)(hb:kl K t=some (.bool b))(hw:b= !want):Region.wanted o (yielded ops a.tmps)=false:=by
 subst hw;simp [Region.wanted,hg,h.yielded hs hb]
theorem Nu{l1 l2:List Oper}:∀{a w},wpList P ops (Exit.then (fun a' w'=>wpList P ops Q l2 a' w') Q) l1 a w->wpList P ops Q (l1++l2) a w:=by
 induction l1 with
 |nil=>intro a w h;exact h
 |cons o l1 ih=>
  intro a w h
  unfold wpList at h
  show wpList P ops Q (o::(l1++l2)) a w
  unfold wpList
  split at h
  ·rename_i hw
   rw [if_pos hw]
   refine h.imp (fun h=>?_) (fun h=>h)
   unfold Oper.wp at*
   generalize (execOp a.eval o).run P w=r at*
   cases r with
   |ok n w'=>
    cases n<;>simp only [Oper.upon]at h ⊢ <;>
     first
      |exact ih h
      |exact Calls.mono h (fun e w'' he=>by cases e<;>first|exact ih he|exact he)
      |exact Rows.mono h (fun _ _ he=>ih he)
      |exact h
   |halt x w'=>cases x<;>simp only [Oper.upon]at h ⊢ <;>exact h
  ·rename_i hw
   rw [if_neg hw]
   exact ih h
theorem TL.cut(k:Nat)(K':KL)(R:World->Prop)(h1:TL P N ops (Exit.then (fun a' w'=>Kn N K' a'∧R w') Q) (l.take k) K w)(h2:∀w',R w'->TL P N ops Q (l.drop k) K' w'):TL P N ops Q l K w:=by
 intro a hK
 rw [←List.take_append_drop k l]
 refine Nu ?_
 have:=h1 a hK
 revert this
 generalize l.take k=l1
 intro h
 have mono:∀(l1:List Oper) a w,wpList P ops (Exit.then (fun a' w'=>Kn N K' a'∧R w') Q) l1 a w->wpList P ops (Exit.then (fun a' w'=>wpList P ops Q (l.drop k) a' w') Q) l1 a w:=by
  intro l1
  induction l1 with
  |nil=>intro a w h;exact h2 w h.2 a h.1
  |cons o l1 ih=>
   intro a w h
   unfold wpList at h ⊢
   split at h
   ·rename_i hw
    rw [if_pos hw]
    refine h.imp (fun h=>?_) (fun h=>h)
    unfold Oper.wp at*
    generalize (execOp a.eval o).run P w=r at*
    cases r with
    |ok n w'=>
     cases n<;>simp only [Oper.upon]at h ⊢ <;>
      first
       |exact ih _ _ h
       |exact Calls.mono h (fun e w'' he=>by cases e<;>first|exact ih _ _ he|exact he)
       |exact Rows.mono h (fun _ _ he=>ih _ _ he)
       |exact h
    |halt x w'=>cases x<;>simp only [Oper.upon]at h ⊢ <;>exact h
   ·rename_i hw
    rw [if_neg hw]
    exact ih _ _ h
 exact mono l1 a w h
/-! ## Regions whose order is drawn, all of whose operations are quiet -/
def QL(P:Program)(N:Nat)(ops:Array Oper)(w:World)(Qa:Act->Prop)(l:List Oper)(K:KL):Prop:=
 ∀a,Kn N K a->wpQuiet P ops (fun w'=>AS w w') Qa l a
def dV(P:Program)(N:Nat)(K:KL)(o:Oper)(w:World)(v:Value):Prop:=
 ∀a,Kn N K a->∀w',AS w w'->o.quietAt P a (fun w'=>AS w w') w' v
theorem EH.qui{v}(h:EH P N K o w v):dV P N K o w v:=by
 intro a hK w' he
 unfold Oper.quietAt
 rw [h a hK w' he]
 exact⟨rfl,rfl⟩
theorem Tz{f args tys vs v}(ho:o.op= .call { callee:=.value (.func f),args:=args,argTypes:=tys })(hf:BC P f=true)
 (ha:Mp K args.toList=some vs) (hc:∀w',AS w w'->Calls P f vs.toArray w' (Dy fun u w''=>u=v∧AS w' w'')):dV P N K o w v:=by
 intro a hK w' hw
 have he:args.map a.eval=vs.toArray:=by
  have:=hK.evs ha
  apply Array.ext'
  simpa using this
 have hr:(execOp a.eval o).run P w'= .ok (.enter f vs.toArray) w':=by
  simp [execOp,ho,resolve,Act.eval,Deferred.ofValue,invoke,he,NH hf]
 unfold Oper.quietAt
 rw [hr]
 exact⟨rfl,(hc w' hw).mono fun e w'' ⟨u,h1,h2,h3⟩=>by subst h1 h2;exact⟨rfl,hw.trans h3⟩⟩
variable {Qa:Act -> Prop}
theorem QL.nil(h:∀a,Kn N K a->Qa a):QL P N ops w Qa [] K:=fun a hK=>h a hK
theorem QL.yld{v}(hg:o.guard=none)(hd:DD N o.dst=true)(h:dV P N K o w v)(k:QL P N ops w Qa rest (Do K o.dst v)):QL P N ops w Qa (o::rest) K:=by
 intro a hK
 unfold wpQuiet
 rw [if_pos (by simp [Region.wanted,hg])]
 exact⟨v,fun w' hw'=>h a hK w' hw',k _ (hK.put (DD.h hd))⟩
theorem Mw{C:World->Prop}{l1 l2:List Oper}:∀{a},wpQuiet P ops C (fun a'=>wpQuiet P ops C Qa l2 a') l1 a->wpQuiet P ops C Qa (l1++l2) a:=by
 induction l1 with
 |nil=>intro a h;exact h
 |cons o l1 ih=>
  intro a h
  unfold wpQuiet at h
  show wpQuiet P ops C Qa (o::(l1++l2)) a
  unfold wpQuiet
  split at h
  ·rename_i hw
   rw [if_pos hw]
   obtain⟨v,h1,h2⟩:=h
   exact⟨v,h1,ih h2⟩
  ·rename_i hw
   rw [if_neg hw]
   exact ih h
theorem OV{C:World->Prop}{Qa Qb:Act->Prop}(hm:∀a,Qa a->Qb a):∀{l1:List Oper} {a},wpQuiet P ops C Qa l1 a->wpQuiet P ops C Qb l1 a:=by
 intro l1
 induction l1 with
 |nil=>intro a h;exact hm _ h
 |cons o l1 ih=>
  intro a h
  unfold wpQuiet at h ⊢
  split at h
  ·rename_i hw
   rw [if_pos hw]
   obtain⟨v,h1,h2⟩:=h
   exact⟨v,h1,ih h2⟩
  ·rename_i hw
   rw [if_neg hw]
   exact ih h
theorem QL.cut(k:Nat)(K':KL)(h1:QL P N ops w (fun a'=>Kn N K' a') (l.take k) K)(h2:QL P N ops w Qa (l.drop k) K'):QL P N ops w Qa l K:=by
 intro a hK
 rw [←List.take_append_drop k l]
 exact Mw (OV (fun a' h=>h2 a' h) (h1 a hK))
theorem WC.quiet{id:Nat}(hm:P.follows .mixedOrders=true)(hB:Region.lexB .any l.toArray=true)(h:QL P N l.toArray w (fun a'=>∀w',AS w w'->Q .normal a' w') l K):WC P N (.region id l.toArray true) Q K w:=
 fun a hK=>wp_region_quiet (C:=fun w'=>AS w w') hm hB (AS.drew w) (by simpa using h a hK)
end
end
end Go.Eng
namespace Go.Eng
open Go Go.RowKit
/-! ## Data in memory -/
abbrev Iv(lo hi:Nat):Nat->Prop:=fun k=>lo<=k∧k<hi
structure Co(α:Type) where
 n:Nat
 rep:World->(Nat->Prop)->α->List Value->Prop
 len:∀{w S x vs},rep w S x vs->vs.length=n
 one:∀{w S x vs},rep w S x vs->vs.all Value.oneCell'=true
 mono:∀{w w' S S' x vs},rep w S x vs->(∀k,S k->S' k)->(∀k,S k->w'.heap[k]? =w.heap[k]?)->rep w' S' x vs
def AG(k:IntKind):Co Int where
 n:=1
 rep:=fun _ _ x vs=>vs=[.int k x]
 len:=fun h=>by rw [h];rfl
 one:=fun h=>by rw [h];rfl
 mono:=fun h _ _=>h
def BK:Co Bool where
 n:=1
 rep:=fun _ _ x vs=>vs=[.bool x]
 len:=fun h=>by rw [h];rfl
 one:=fun h=>by rw [h];rfl
 mono:=fun h _ _=>h
def Az:Co ByteArray where
 n:=1
 rep:=fun _ _ x vs=>vs=[.string x]
 len:=fun h=>by rw [h];rfl
 one:=fun h=>by rw [h];rfl
 mono:=fun h _ _=>h
def Bc{α β:Type}(c:Co α)(d:Co β):Co (α×β) where
 n:=c.n+d.n
 rep:=fun w S x vs=>∃us ts,vs=us++ts∧c.rep w S x.1 us∧d.rep w S x.2 ts
 len:=fun⟨us,ts,e,h1,h2⟩=>by rw [e,List.length_append,c.len h1,d.len h2]
 one:=fun⟨us,ts,e,h1,h2⟩=>by rw [e,List.all_append,c.one h1,d.one h2];rfl
 mono:=fun⟨us,ts,e,h1,h2⟩ a b=>⟨us,ts,e,c.mono h1 a b,d.mono h2 a b⟩
def Dl{α β:Type}(f:β->α)(c:Co α):Co β where
 n:=c.n
 rep:=fun w S x vs=>c.rep w S (f x) vs
 len:=fun h=>c.len h
 one:=fun h=>c.one h
 mono:=fun h a b=>c.mono h a b
def AE{α:Type}(c:Co α)(w:World)(S:Nat->Prop)(xs:List α)(v:Value):Prop:=
 ∃a cap,v= .slice a xs.length cap∧(xs.length<=cap∧(a=none->cap=0))∧cap<=9223372036854775807∧
  (0<xs.length->∃b off,a=some ⟨b,off,none⟩∧S b∧∀i x,xs[i]? =some x->∃us,c.rep w S x us∧AP w b (off+i*c.n) us)
theorem AE.mono{α:Type}{c:Co α}{w w':World}{S S':Nat->Prop}{xs:List α}{v:Value}(h:AE c w S xs v)(ha:∀k,S k->S' k)(hk:∀k,S k->w'.heap[k]? =w.heap[k]?):AE c w' S' xs v:=by
 obtain⟨a,cap,h1,h2,h3,h4⟩:=h
 refine⟨a,cap,h1,h2,h3,fun hl=>?_⟩
 obtain⟨b,off,h5,h6,h8⟩:=h4 hl
 refine⟨b,off,h5,ha b h6,fun i x hx=>?_⟩
 obtain⟨us,h9,h10⟩:=h8 i x hx
 exact⟨us,c.mono h9 ha hk,h10.block (hk b h6)⟩
def FQ{α:Type}(c:Co α):Co (List α) where
 n:=1
 rep:=fun w S xs vs=>∃v,vs=[v]∧AE c w S xs v
 len:=fun⟨v,e,_⟩=>by rw [e];rfl
 one:=fun⟨v,e,a,cap,h,_⟩=>by rw [e,h];rfl
 mono:=fun⟨v,e,h⟩ ha hk=>⟨v,e,h.mono ha hk⟩
theorem AE.old{α:Type}{c:Co α}{w w':World}{B lo hi:Nat}{xs:List α}{v:Value}(h:AE c w (Iv lo hi) xs v)(hB:Below B w w')(hle:hi<=B):AE c w' (Iv lo hi) xs v:=
 h.mono (fun _ h=>h) (fun k h2=>hB.block k (by have:=h2.2;omega))
theorem AE.wide{α:Type}{c:Co α}{w:World}{lo hi lo' hi':Nat}{xs:List α}{v:Value}(h:AE c w (Iv lo hi) xs v)(h1:lo'<=lo:=by omega)(h2:hi<=hi':=by omega):AE c w (Iv lo' hi') xs v:=
 h.mono (fun k h=>⟨by have:=h.1;omega,by have:=h.2;omega⟩) (fun _ _=>rfl)
theorem AE.upd{α:Type}{c:Co α}{w w':World}{b lo hi:Nat}{xs:List α}{v:Value}(h:AE c w (Iv lo hi) xs v)(hu:GU b w w')(hne:b<lo∨hi<=b):AE c w' (Iv lo hi) xs v:=
 h.mono (fun _ h=>h) (fun k h=>hu.block k (by have:=h.1;have:=h.2;omega))
theorem Co.old{α:Type}(c:Co α){w w':World}{B lo hi:Nat}{x:α}{vs:List Value}(h:c.rep w (Iv lo hi) x vs)(hB:Below B w w')(hle:hi<=B):c.rep w' (Iv lo hi) x vs:=
 c.mono h (fun _ h=>h) (fun k h2=>hB.block k (by have:=h2.2;omega))
theorem Co.wide{α:Type}(c:Co α){w:World}{lo hi lo' hi':Nat}{x:α}{vs:List Value}(h:c.rep w (Iv lo hi) x vs)(h1:lo'<=lo)(h2:hi<=hi'):c.rep w (Iv lo' hi') x vs:=
 c.mono h (fun k h=>⟨by have:=h.1;omega,by have:=h.2;omega⟩) (fun _ _=>rfl)
theorem AE.nil{α:Type}(c:Co α)(w:World)(S:Nat->Prop):AE c w S [] (.slice none 0 0):=⟨none,0,rfl,⟨by simp,fun _=>rfl⟩,by simp,fun h=>by simp at h⟩
def AL{α:Type}(xs:List α)(i:Int):Option α:=if 0<=i then xs[i.toNat]? else none
theorem EZ{α:Type}{xs:List α}{i:Int}{x:α}(h:AL xs i=some x):0<=i∧i<xs.length∧xs[i.toNat]? =some x:=by
 unfold AL at h
 split at h
 ·rename_i h0
  obtain⟨h1,_⟩:=List.getElem?_eq_some_iff.1 h
  exact⟨h0,by omega,h⟩
 ·cases h
section
variable {P:Program} {N:Nat}
def YE(P:Program)(N:Nat)(K:KL)(o:Oper)(w:World)(Ψ:Value->Prop):Prop:=∃v,EH P N K o w v∧Ψ v
section
variable {ops:Array Oper} {Q:Exit -> Act -> World -> Prop} {o:Oper} {rest l:List Oper} {K:KL} {w:World} {Qa:Act -> Prop} {Ψ:Value -> Prop}
theorem El{t x i e b off n c k m sz}(ho:o.op= .indexAddr t x i)(hu:P.underlying t=some (.slice e))(hc:BX P e=some sz)(hx:CK K x=some (.slice (some ⟨b,off,none⟩) n c))
 (hi:CK K i=some (.int k m)) (h0:0<=m) (h1:m<n):EH P N K o w (.pointer (some ⟨b,off+m.toNat*sz,none⟩)):=by
 intro a hK w' _
 obtain⟨i,hi2,hs⟩:=Option.map_eq_some_iff.1 hc
 simp [execOp,ho,hK.ev hx,hK.ev hi,Instr.indexAt,asIntOf,run_underlying hu,h0,h1,sizeOf,typeInfo,hi2,hs,Ch]
theorem Tk{α:Type}{c:Co α}{xs:List α}{y:α}{t x i e v k m S}(ho:o.op= .indexAddr t x i)(hu:P.underlying t=some (.slice e))(hc:BX P e=some c.n)(hx:CK K x=some v)
 (hi2:CK K i=some (.int k m)) (hs:AE c w S xs v) (hg:AL xs m=some y):
 YE P N K o w (fun u=>∃b off us,u= .pointer (some ⟨b,off,none⟩)∧S b∧c.rep w S y us∧AP w b off us):=by
 obtain⟨a,cap,rfl,h2,h3,h4⟩:=hs
 obtain⟨g0,g1,g2⟩:=EZ hg
 obtain⟨b,off,rfl,h5,h7⟩:=h4 (by omega)
 obtain⟨us,h8,h9⟩:=h7 _ _ g2
 exact⟨_,El ho hu hc hx hi2 g0 g1,b,_,us,rfl,h5,h8,h9⟩
theorem ZW{α:Type}{c:Co α}{xs:List α}{t x e v S}(ho:o.op= .call { callee:=.builtin .len,args:=#[x],argTypes:=#[t] })(hu:P.underlying t=some (.slice e))(hx:CK K x=some v)(hs:AE c w S xs v):
 EH P N K o w (.int .i64 xs.length):=by
 obtain⟨a,cap,rfl,h2,h3,h4⟩:=hs
 exact KH ho hu hx
end
section
variable {o:Oper} {K:KL} {w:World}
end
/-! ## What comes next -/
def NX(N:Nat)(Q:Exit->Act->World->Prop)(e:Exit)(K:KL)(w:World):Prop:=∀a,Kn N K a->Q e a w
section
variable {Q:Exit -> Act -> World -> Prop} {K:KL} {w:World} {f:Act -> World -> Prop} {ops:Array Oper}
theorem TL.done(h:NX N Q .normal K w):TL P N ops Q [] K w:=TL.nil h
theorem QL.done(h:∀w',AS w w'->NX N Q .normal K w'):QL P N ops w (fun a'=>∀w',AS w w'->Q .normal a' w') [] K:=QL.nil fun a hK w' he=>h w' he a hK
theorem WC.skip'(h:NX N Q .normal K w):WC P N .skip Q K w:=WC.skip h
theorem WC.exit'{id:Nat}(h:NX N Q (.exit id) K w):WC P N (.exit id) Q K w:=WC.exit h
theorem WC.ret'(h:NX N Q .ret K w):WC P N .ret Q K w:=WC.ret h
theorem NX.seq{y:Code}{Q':Exit->Act->World->Prop}(h:WC P N y Q' K w):NX N (Exit.then (fun a' w'=>y.wp P Q' a' w') Q) .normal K w:=h
theorem NX.then_n(h:∀a,Kn N K a->f a w):NX N (Exit.then f Q) .normal K w:=h
theorem NX.then_e{id:Nat}(h:NX N Q (.exit id) K w):NX N (Exit.then f Q) (.exit id) K w:=h
theorem NX.then_r(h:NX N Q .ret K w):NX N (Exit.then f Q) .ret K w:=h
theorem NX.blk_n{id:Nat}(h:NX N Q .normal K w):NX N (Exit.inBlock id Q) .normal K w:=h
theorem NX.blk_r{id:Nat}(h:NX N Q .ret K w):NX N (Exit.inBlock id Q) .ret K w:=h
theorem NX.blk_hit{id:Nat}(h:NX N Q .normal K w):NX N (Exit.inBlock id Q) (.exit id) K w:=fun a hK=>by
 show(if id=id then Q .normal a w else Q (.exit id) a w);rw [if_pos rfl];exact h a hK
theorem NX.blk_miss{id id':Nat}(hne:Nat.beq id' id=false)(h:NX N Q (.exit id') K w):NX N (Exit.inBlock id Q) (.exit id') K w:=fun a hK=>by
 have hn:¬id'=id:=fun e=>by subst e;simp at hne
 show(if id'=id then Q .normal a w else Q (.exit id') a w);rw [if_neg hn];exact h a hK
theorem NX.weaken{K'}{e:Exit}(hk:Vf K' K)(h:NX N Q e K' w):NX N Q e K w:=fun a hK=>h a (hK.weaken hk)
theorem NX.end{fn:Func}{rs vs R}(hr:fn.results=rs.toArray)(ho:Mq P K w rs vs)(hR:R (.returned (EQ vs)) w):NX N (bodyPost P fn R) .ret K w:=Ov hr ho hR
theorem NX.end_n{fn:Func}{rs vs R}(hr:fn.results=rs.toArray)(ho:Mq P K w rs vs)(hR:R (.returned (EQ vs)) w):NX N (bodyPost P fn R) .normal K w:=Ov (P:=P) hr ho hR
theorem Aq{b ty T}{us:List Value}(ha:DN P ty=some true)(hn:BX P ty=some us.length)(hb:Ak w b us T):(loadVar ty ⟨b,0,none⟩).run P w= .ok (.agg us.toArray) w:=by
 obtain⟨i,hi,hs⟩:=Option.map_eq_some_iff.1 hn
 have hl:(loadCells ⟨b,0,none⟩ us.length).run P w= .ok us.toArray w:=
  run_loadCells_list (P:=P) w ⟨b,0,none⟩ us (fun j v hv=>by rw [Ch];exact(hb.cells j v hv).1)
 simp [loadVar,Sem.run_bind,KJ ha,sizeOf,typeInfo,hi,hs,hl]
end
end
theorem AE.one{α:Type}{c:Co α}{w:World}{S:Nat->Prop}{xs:List α}{v:Value}(h:AE c w S xs v):v.oneCell'=true:=by
 obtain⟨a,cap,rfl,_⟩:=h;rfl
theorem AE.cells{α:Type}{c:Co α}{w:World}{S:Nat->Prop}{xs:List α}{v:Value}(h:AE c w S xs v):v.cells= #[v]:=by
 obtain⟨a,cap,rfl,_⟩:=h;rfl
theorem MO{α:Type}{b:Int}{a:Option α}{r:α}(h:(bif b==0 then none else a)=some r):b≠0∧a=some r:=by
 by_cases hb:b=0
 ·subst hb;cases h
 ·refine⟨hb,?_⟩
  have:(b==0)=false:=by simpa using hb
  rw [this]at h;exact h
theorem AB{α β:Type}{o:Option α}{f:α->Option β}{r:β}(h:Option.bind o f=some r):∃x,o=some x∧f x=some r:=by
 cases o with
 |none=>cases h
 |some x=>exact⟨x,rfl,h⟩
theorem TH{α:Type}{c:Bool}{a b:Option α}{r:α}(h:c=true)(hF:(bif c then a else b)=some r):a=some r:=by subst h;exact hF
theorem Uz{α:Type}{c:Bool}{a b:Option α}{r:α}(h:c=false)(hF:(bif c then a else b)=some r):b=some r:=by subst h;exact hF
end Go.Eng
namespace Go.Eng
open Go Go.RowKit
class Cx{α:Type}(c:Co α):Prop where
 any:∀{w w' S S' x vs},c.rep w S x vs->c.rep w' S' x vs
instance (k:IntKind):Cx (AG k):=⟨fun h=>h⟩
instance:Cx BK:=⟨fun h=>h⟩
instance:Cx Az:=⟨fun h=>h⟩
instance {α β:Type}(c:Co α)(d:Co β)[Cx c][Cx d]:Cx (Bc c d):=⟨fun⟨us,ts,e,h1,h2⟩=>⟨us,ts,e,Cx.any h1,Cx.any h2⟩⟩
instance {α β:Type}(f:β->α)(c:Co α)[h:Cx c]:Cx (Dl f c):=⟨fun k=>h.any k⟩
def BM(cs:List Value)(n i:Nat):List Value:=(cs.drop (i*n)).take n
theorem Bn{cs:List Value}{n i j:Nat}(hj:j<n):(BM cs n i)[j]? =cs[i*n+j]?:=by
 unfold BM
 rw [List.getElem?_take,if_pos hj,List.getElem?_drop]
def AC{α:Type}(c:Co α)(w:World)(B:Nat)(S:Nat->Prop)(e:TypeId)(xs:List α)(v:Value):Prop:=
 ∃cs,w.ownsRow B e c.n v xs.length cs∧∀i x,xs[i]? =some x->c.rep w S x (BM cs c.n i)
section
variable {α:Type} {c:Co α} {w w':World} {B:Nat} {S S':Nat -> Prop} {e:TypeId} {xs:List α} {v:Value}
theorem AC.blk(h:AC c w B S e xs v):∀g,v.ownBlock=some g->B<=g∧g<w.heap.size:=by
 obtain⟨cs,h1,_⟩:=h;exact h1.lt
theorem AC.one(h:AC c w B S e xs v):v.oneCell'=true:=by
 obtain⟨cs,⟨_,⟨rfl,_⟩|⟨g,cap,cur,rfl,_⟩⟩,_⟩:=h<;>rfl
theorem AC.cells(h:AC c w B S e xs v):v.cells= #[v]:=by
 obtain⟨cs,⟨_,⟨rfl,_⟩|⟨g,cap,cur,rfl,_⟩⟩,_⟩:=h<;>rfl
theorem AC.base(h:AC c w B S e xs v){B':Nat}(hB:B'<=B):AC c w B' S e xs v:=by
 obtain⟨cs,⟨h1,h2⟩,h3⟩:=h
 refine⟨cs,⟨h1,?_⟩,h3⟩
 rcases h2 with h2|⟨g,cap,cur,hv,hb,rest⟩
 ·exact .inl h2
 ·exact .inr ⟨g,cap,cur,hv,by omega,rest⟩
theorem AC.nil(c:Co α)(w:World)(B:Nat)(S:Nat->Prop)(e:TypeId):AC c w B S e [] (.slice none 0 0):=
 ⟨[],World.ownsRow_nil w B e c.n,fun i x h=>by simp at h⟩
theorem AC.keep(h:AC c w B S e xs v)(hg:∀g,v.ownBlock=some g->w'.heap[g]? =w.heap[g]?)(hS:∀k,S k->S' k)(hk:∀k,S k->w'.heap[k]? =w.heap[k]?):AC c w' B S' e xs v:=by
 obtain⟨cs,⟨h1,h2⟩,h3⟩:=h
 refine⟨cs,⟨h1,?_⟩,fun i x hx=>c.mono (h3 i x hx) hS hk⟩
 rcases h2 with h2|⟨g,cap,cur,rfl,hb,hh,rest⟩
 ·exact .inl h2
 ·exact .inr ⟨g,cap,cur,rfl,hb,(hg g rfl).trans hh,rest⟩
theorem AC.ext[Cx c](h:AC c w B (Iv 0 0) e xs v)(he:AS w w'):AC c w' B (Iv 0 0) e xs v:=
 h.keep (fun g hg=>he.block g (h.blk g hg).2) (fun _ h=>h) (fun k h=>absurd h.2 (Nat.not_lt_zero k))
theorem AC.upd[Cx c]{b:Nat}(h:AC c w B (Iv 0 0) e xs v)(hu:GU b w w')(hne:∀g,v.ownBlock=some g->g≠b):AC c w' B (Iv 0 0) e xs v:=
 h.keep (fun g hg=>hu.block g (hne g hg)) (fun _ h=>h) (fun k h=>absurd h.2 (Nat.not_lt_zero k))
theorem AC.sl(h:AC c w B S e xs v)(hS:∀k,S k->S' k)(hB:∀k,B<=k->k<w.heap.size->S' k):AE c w S' xs v:=by
 obtain⟨cs,h0,h3⟩:=h
 have h1:=h0
 obtain⟨hl,⟨rfl,hn⟩|⟨g,cap,cur,rfl,hb,hh,h5,h6,h7,h8⟩⟩:=h1
 ·have:xs=[]:=List.eq_nil_of_length_eq_zero hn
  subst this;exact AE.nil _ _ _
 ·have hlt:g<w.heap.size:=(Array.getElem?_eq_some_iff.1 hh).1
  refine⟨some ⟨g,0,none⟩,cap,rfl,⟨h5,fun h=>by cases h⟩,by simpa [maxLen] using h6,fun hpos=>⟨g,0,rfl,hB g hb hlt,fun i x hx=>⟨_,c.mono (h3 i x hx) hS (fun _ _=>rfl),fun j u hu=>?_⟩⟩⟩
  have hjn:j<c.n:=by
   have:=(List.getElem?_eq_some_iff.1 hu).1
   simp [BM]at this;omega
  rw [Bn hjn]at hu
  have:=h0.cells (g:=g) rfl _ _ hu
  rw [Ch]at this
  rw [show 0+i*c.n+j=0+(i*c.n+j) by omega];exact⟨this,by simp [World.frozen?,hh]⟩
theorem AC.slf[Cx c]{lo hi:Nat}(h:AC c w B (Iv 0 0) e xs v)(h1:lo<=B:=by omega)(h2:w.heap.size<=hi:=by omega):AE c w (Iv lo hi) xs v:=
 h.sl (fun k h=>absurd h.2 (Nat.not_lt_zero k)) (fun k h3 h4=>⟨by omega,by omega⟩)
end
theorem Me{α:Type}{xs:List α}{i j:Nat}{y x:α}(h:(xs.set i y)[j]? =some x):(i=j∧x=y)∨(i≠j∧xs[j]? =some x):=by
 rw [List.getElem?_set]at h
 split at h
 ·rename_i e;subst e
  split at h
  ·injection h with h;exact .inl ⟨rfl,h.symm⟩
  ·cases h
 ·rename_i e;exact .inr ⟨e,h⟩
def Gx(cs:List Value)(p:Nat)(us:List Value):List Value:=cs.take p++us++cs.drop (p+us.length)
theorem Kp{cs us:List Value}{p:Nat}(h:p+us.length<=cs.length):(Gx cs p us).length=cs.length:=by
 simp [Gx];omega
theorem Gw{cs us:List Value}{p k:Nat}(h:p+us.length<=cs.length):(Gx cs p us)[k]? =if p<=k∧k<p+us.length then us[k-p]? else cs[k]?:=by
 have hp:(cs.take p).length=p:=by simp;omega
 unfold Gx
 by_cases h1:k<p
 ·rw [if_neg (by omega),List.append_assoc,List.getElem?_append_left (by omega),List.getElem?_take,if_pos h1]
 ·by_cases h2:k<p+us.length
  ·rw [if_pos (by omega),List.append_assoc,List.getElem?_append_right (by omega),hp,List.getElem?_append_left (by omega)]
  ·rw [if_neg (by omega),List.getElem?_append_right (by simp;omega),List.getElem?_drop]
   congr 1
   simp;omega
section
variable {P:Program} {N:Nat} {α:Type} {c:Co α} {w:World} {B:Nat} {S:Nat -> Prop} {e:TypeId} {xs:List α} {v:Value} {o:Oper} {K:KL}
theorem PP{t x}(ho:o.op= .call { callee:=.builtin .len,args:=#[x],argTypes:=#[t] })(hu:P.underlying t=some (.slice e))(hx:CK K x=some v)(hs:AC c w B S e xs v):
 EH P N K o w (.int .i64 xs.length):=by
 obtain⟨cs,⟨_,⟨rfl,hn⟩|⟨g,cap,cur,rfl,_⟩⟩,_⟩:=hs
 ·have:=KH (N:=N) (w:=w) ho hu hx;rw [hn];exact this
 ·exact KH ho hu hx
theorem LY{y:α}{t x i k m}(ho:o.op= .indexAddr t x i)(hu:P.underlying t=some (.slice e))(hc:BX P e=some c.n)(hx:CK K x=some v)
 (hi2:CK K i=some (.int k m)) (hs:AC c w B S e xs v) (hg:AL xs m=some y):
 YE P N K o w (fun u=>∃g us,u= .pointer (some ⟨g,0+m.toNat*c.n,none⟩)∧v.ownBlock=some g∧c.rep w S y us∧AP w g (0+m.toNat*c.n) us):=by
 obtain⟨cs,h0,h3⟩:=hs
 obtain⟨g0,g1,g2⟩:=EZ hg
 have h1:=h0
 obtain⟨hl,⟨rfl,hn⟩|⟨g,cap,cur,rfl,hb,hh,h5,h6,h7,h8⟩⟩:=h1
 ·omega
 ·refine⟨_,El ho hu hc hx hi2 g0 g1,g,_,rfl,rfl,h3 _ _ g2,fun j u hu=>?_⟩
  have hjn:j<c.n:=by
   have:=(List.getElem?_eq_some_iff.1 hu).1
   simp [BM]at this;omega
  rw [Bn hjn]at hu
  have:=h0.cells (g:=g) rfl _ _ hu
  rw [Ch]at this
  rw [show 0+m.toNat*c.n+j=0+(m.toNat*c.n+j) by omega];exact⟨this,by simp [World.frozen?,hh]⟩
theorem BA{t x y u g m us us' y0 y'}(j off:Nat)(ho:o.op= .store t x y)(hx:CK K x=some (.pointer (some ⟨g,off,none⟩)))(hy:CK K y=some u)(hs:AC c w B S e xs v)
 (hg:v.ownBlock=some g) (hm:AL xs m=some y0) (hoff:off=0+m.toNat*c.n+j) (hn:BX P t=some u.cells.toList.length) (h1:u.cells.toList.all Value.oneCell'=true) (hrep:c.rep w S y0 us)
 (hcl:AP w g (0+m.toNat*c.n) us)
 (hus:us'=Gx us j u.cells.toList) (hfit:Nat.ble (j+u.cells.toList.length) us.length=true) (hrep':c.rep w S y' us') (hS:∀k,S k->k≠g):
 JY P N K o w (fun _ w'=>GU g w w'∧AC c w' B S e (xs.set m.toNat y') v):=by
 obtain⟨cs,h0,h3⟩:=hs
 obtain⟨g0,g1,g2⟩:=EZ hm
 have h1':=h0
 obtain⟨hl,⟨rfl,_⟩|⟨g',cap,cur,rfl,hb,hh,h5,h6,h7,h8⟩⟩:=h1'
 ·simp [Value.ownBlock]at hg
 simp [Value.ownBlock]at hg
 subst hg
 have hfit:=Nat.le_of_ble_eq_true hfit
 have husl:us.length=c.n:=c.len hrep
 have hmn:(m.toNat+1)*c.n<=xs.length*c.n:=Nat.mul_le_mul_right _ (by omega)
 rw [Nat.add_mul]at hmn
 have hcap:xs.length*c.n<=cap*c.n:=Nat.mul_le_mul_right _ h5
 obtain⟨ti,hi,hsz⟩:=Option.map_eq_some_iff.1 hn
 have hst:=run_storeCells_at P g' off e u.cells.toList 0 cur w hh (by rw [h7];omega) (List.all_eq_true.1 h1)
 simp only [Nat.add_zero]at hst
 intro a hK Kt Q hk
 have hr:(execOp a.eval o).run P w= .ok .skip (w.setRow g' (Gx cur.toList off u.cells.toList).toArray):=by
  simp [execOp,ho,hK.ev hx,hK.ev hy,Instr.storeAt,Instr.sureAddr,storeVar,Sem.run_bind,sizeOf,typeInfo,hi,hsz,Gx]at hst ⊢
  rw [hst]
  simp
 unfold Oper.wp
 rw [hr]
 clear hr hst h1 hy hsz hn ho
 revert hus hfit hk
 generalize u.cells.toList=us2
 intro hus hfit hk
 refine hk _ _ ⟨GU.setRow _ _ _,Gx cs off us2,⟨?_,.inr ⟨g',cap,_,by simp,hb,setRow_heap w g' cur _ e _ hh,by simpa using h5,h6,?_,?_⟩⟩,?_⟩
 ·rw [Kp (by rw [hl];omega),hl];simp
 ·have:=Kp (cs:=cur.toList) (us:=us2) (p:=off) (by simp [h7];omega)
  simp only [List.size_toArray,this];simpa using h7
 ·apply List.ext_getElem?
  intro k
  rw [List.length_set]
  simp only [List.toList_toArray]
  rw [List.getElem?_take,Gw (cs:=cs) (by rw [hl];omega)]
  split
  ·rename_i hk2
   rw [Gw (by simp [h7];omega)]
   split
   ·rfl
   ·rw [←h8,List.getElem?_take,if_pos hk2]
  ·rename_i hk2
   rw [if_neg (by omega)]
   symm;rw [List.getElem?_eq_none];omega
 ·intro i x hx2
  rcases Me hx2 with ⟨rfl,rfl⟩|⟨hne,hx3⟩
  ·have e1:BM (Gx cs off us2) c.n m.toNat=us':=by
    apply List.ext_getElem?
    intro q
    by_cases hq:q<c.n
    ·rw [Bn hq,Gw (by rw [hl];omega),hus,Gw (by omega)]
     have hcq:cs[m.toNat*c.n+q]? =us[q]?:=by
      have a1:us[q]? =some (us[q]'(by omega)):=List.getElem?_eq_getElem _
      have a2:=(hcl q _ a1).1
      have hlt2:m.toNat*c.n+q<cs.length:=by rw [hl];omega
      have a3:=h0.cells (g:=g') rfl (m.toNat*c.n+q) _ (List.getElem?_eq_getElem hlt2)
      rw [Ch]at a3
      rw [show 0+m.toNat*c.n+q=0+(m.toNat*c.n+q) by omega,a3]at a2
      rw [a1,List.getElem?_eq_getElem hlt2];exact a2
     split
     ·rename_i hc2
      rw [if_pos (by omega)];congr 1;omega
     ·rename_i hc2
      rw [if_neg (by omega)];exact hcq
    ·rw [List.getElem?_eq_none (by simp [BM];omega),List.getElem?_eq_none]
     rw [hus,Kp (by omega)];omega
   rw [e1]
   exact c.mono hrep' (fun _ h=>h) (fun k hk3=>setRow_other _ _ _ _ (hS k hk3))
  ·have e1:BM (Gx cs off us2) c.n i=BM cs c.n i:=by
    have hilt:i<xs.length:=(List.getElem?_eq_some_iff.1 hx3).1
    apply List.ext_getElem?
    intro q
    by_cases hq:q<c.n
    ·rw [Bn hq,Bn hq,Gw (by rw [hl];omega)]
     rw [if_neg]
     rcases Nat.lt_or_gt_of_ne hne with h|h
     ·have:(m.toNat+1)*c.n<=i*c.n:=Nat.mul_le_mul_right _ h
      rw [Nat.add_mul]at this;omega
     ·have:(i+1)*c.n<=m.toNat*c.n:=Nat.mul_le_mul_right _ h
      rw [Nat.add_mul]at this;omega
    ·rw [List.getElem?_eq_none (by simp [BM];omega),List.getElem?_eq_none (by simp [BM];omega)]
   rw [e1]
   exact c.mono (h3 i x hx3) (fun _ h=>h) (fun k hk3=>setRow_other _ _ _ _ (hS k hk3))
/-! ### make -/
def MK(m:Int)(bytes:Nat):Option Nat:=if 0<=m∧m*bytes<=281474976710656∧m<=9223372036854775807 then some m.toNat else none
def DL(P:Program)(t:Nat):Option (List Value×Nat×Nat):=(P.info? t).bind fun i=>i.zero.map fun z=>(z.cells.toList,i.size,i.bytes)
theorem NY{zs:List Value}{k i:Nat}(hi:i<k)(hz:0<zs.length):BM (madeCells zs.toArray (k*zs.length)).toList zs.length i=zs:=by
 apply List.ext_getElem?
 intro q
 by_cases hq:q<zs.length
 ·rw [Bn hq]
  have:(i+1)*zs.length<=k*zs.length:=Nat.mul_le_mul_right _ hi
  rw [Nat.add_mul]at this
  simp only [madeCells,Array.toList_map,Array.toList_range,List.getElem?_map]
  rw [List.getElem?_range (by omega)]
  simp [Nat.mul_add_mod_self_right,Nat.mod_eq_of_lt hq,hq]
 ·rw [List.getElem?_eq_none (by simp [BM];omega),List.getElem?_eq_none (by omega)]
theorem By{t l c2 zs sz by' m m' k z kd kd'}(ho:o.op= .makeSlice t l c2)(hu:P.underlying t=some (.slice e))(hi:DL P e=some (zs,sz,by'))(hl:CK K l=some (.int kd m))(hc:CK K c2=some (.int kd' m'))(hmm:m'=m)
 (hk:MK m by'=some k) (hsz:sz=c.n) (hpos:Nat.blt 0 c.n=true) (hz:∀w,c.rep w (Iv 0 0) z zs):
 JY P N K o w (fun u w'=>∃g,u= .slice (some ⟨g,0,none⟩) k k∧g=w.heap.size∧w'.heap.size=w.heap.size+1∧AS w w'∧AC c w' g (Iv 0 0) e (List.replicate k z) u):=by
 subst hmm
 unfold DL at hi
 obtain⟨i,hi1,hi2⟩:=Option.bind_eq_some_iff.1 hi
 obtain⟨zv,hz1,hz2⟩:=Option.map_eq_some_iff.1 hi2
 simp only [Prod.mk.injEq]at hz2
 obtain⟨e1,e2,e3⟩:=hz2
 unfold MK at hk
 split at hk
 ·rename_i hm
  injection hk with hk
  have hlen:zs.length=c.n:=c.len (hz w)
  have hr:=run_make (P:=P) w t e i zv hu hi1 hz1 kd kd' m' m' hm.1 (Int.le_refl _) (by rw [e3,Int.mul_comm];exact hm.2.1) hm.2.2
  intro a hK Kt Q hkk
  have hr2:(execOp a.eval o).run P w= .ok (.value (.slice (some ⟨w.heap.size,0,none⟩) m'.toNat m'.toNat)) (w.alloc (.cells (madeCells zv.cells (m'.toNat*i.size)) e)):=by
   simp [execOp,ho,hK.ev hl,hK.ev hc,hr]
  unfold Oper.wp
  rw [hr2]
  refine hkk _ _ ⟨w.heap.size,by rw [hk],rfl,by simp,AS.alloc _ _,?_⟩
  have hp:0<c.n:=by have h:=hpos;simp [Nat.blt]at h;omega
  have hzc:zv.cells=zs.toArray:=by rw [←e1]
  refine⟨(madeCells zv.cells (m'.toNat*i.size)).toList,⟨?_,.inr ⟨w.heap.size,k,_,by rw [List.length_replicate,hk],Nat.le_refl _,heap_alloc_new w _,by simp,by simp only [maxLen];omega,?_,?_⟩⟩,?_⟩
  ·simp [size_madeCells,e2,hsz,hk]
  ·simp [size_madeCells,e2,hsz,hk]
  ·rw [List.take_of_length_le];simp [size_madeCells,e2,hsz,hk]
  ·intro q x hx
   have hq:q<k:=by have:=(List.getElem?_eq_some_iff.1 hx).1;simpa using this
   have hxz:x=z:=by simpa [hq] using hx.symm
   subst hxz
   rw [hzc,e2,hsz,←hlen,hk,NY hq (by omega)]
   exact c.mono (hz w) (fun _ h=>h) (fun k h=>absurd h.2 (Nat.not_lt_zero k))
 ·cases hk
end
end Go.Eng
namespace Go.Eng
open Go Go.RowKit
/-! ## append, literals -/
def Bk{α:Type}(xs ys:List α)(bytes:Nat):Option (List α):=if (xs.length+ys.length)*bytes<=140737488355328∧xs.length+ys.length<=9223372036854775807 then some (xs++ys)else none
def Bm:List (List Value)->List Value
 |[]=>[]
 |us::uss=>us++Bm uss
theorem GR{n:Nat}:∀{uss:List (List Value)},(∀us∈uss,us.length=n)->(Bm uss).length=uss.length*n
 |[],_=>by simp [Bm]
 |us::uss,h=>by
  simp only [Bm,List.length_append,List.length_cons,Nat.add_mul]
  rw [h us (List.mem_cons_self ..),GR (fun x hx=>h x (List.mem_cons_of_mem _ hx))]
  omega
theorem IY{n:Nat}:∀{uss:List (List Value)} {i q:Nat} {us:List Value},(∀us∈uss,us.length=n)->uss[i]? =some us->q<n->(Bm uss)[i*n+q]? =us[q]?
 |[],i,q,us,_,h,_=>by simp at h
 |u0::uss,0,q,us,hl,h,hq=>by
  simp at h;subst h
  simp only [Bm]
  rw [List.getElem?_append_left (by rw [hl u0 (List.mem_cons_self ..)];omega)]
  congr 1;omega
 |u0::uss,i+1,q,us,hl,h,hq=>by
  have hl0:=hl u0 (List.mem_cons_self ..)
  simp only [Bm]
  rw [List.getElem?_append_right (by rw [hl0,Nat.add_mul];omega)]
  have:=IY (uss:=uss) (i:=i) (q:=q) (fun x hx=>hl x (List.mem_cons_of_mem _ hx)) (by simpa using h) hq
  rw [←this]
  congr 1
  rw [hl0,Nat.add_mul];omega
theorem KX{n:Nat}{uss:List (List Value)}{i:Nat}{us:List Value}(hl:∀us∈uss,us.length=n)(h:uss[i]? =some us):BM (Bm uss) n i=us:=by
 have hus:=hl us (List.mem_of_getElem? h)
 apply List.ext_getElem?
 intro q
 by_cases hq:q<n
 ·rw [Bn hq,IY hl h hq]
 ·rw [List.getElem?_eq_none (by simp [BM];omega),List.getElem?_eq_none (by omega)]
theorem AE.all'{α:Type}{c:Co α}{w:World}{S:Nat->Prop}{xs:List α}{v:Value}(h:AE c w S xs v)(hn:0<c.n):
 ∃uss:List (List Value),uss.length=xs.length∧(∀us∈uss,us.length=c.n)∧(∀(i:Nat) (x:α) (us:List Value),xs[i]? =some x->uss[i]? =some us->c.rep w S x us)∧
  ∃(a:Option Addr) (cap:Nat),v= .slice a xs.length cap∧(a=none->cap=0)∧(xs.length=0∨∃b off,a=some ⟨b,off,none⟩∧S b∧∀j u,(Bm uss)[j]? =some u->w.cell? ⟨b,off+j,none⟩=some u):=by
 obtain⟨a,cap,rfl,h2,h3,h4⟩:=h
 by_cases hl:0<xs.length
 ·obtain⟨b,off,rfl,hb,h5⟩:=h4 hl
  have hch:∀i,i<xs.length->∃us,∀x,xs[i]? =some x->c.rep w S x us∧AP w b (off+i*c.n) us:=by
   intro i hi
   obtain⟨us,h6⟩:=h5 i _ (List.getElem?_eq_getElem hi)
   refine⟨us,fun x hx=>?_⟩
   have:x=xs[i]:=by rw [List.getElem?_eq_getElem hi]at hx;exact(Option.some.inj hx).symm
   subst this;exact h6
  obtain⟨f,hf⟩:=Go.Deep.choose_lt hch
  have hlen:∀us∈(List.range xs.length).map f,us.length=c.n:=by
   intro us hus
   obtain⟨i,hi,rfl⟩:=List.mem_map.1 hus
   exact c.len (hf i (List.mem_range.1 hi) _ (List.getElem?_eq_getElem (List.mem_range.1 hi))).1
  refine⟨(List.range xs.length).map f,by simp,hlen,?_,some ⟨b,off,none⟩,cap,rfl,h2.2,.inr ⟨b,off,rfl,hb,?_⟩⟩
  ·intro i x us hx hus
   have hi:i<xs.length:=(List.getElem?_eq_some_iff.1 hx).1
   simp [hi]at hus;subst hus
   exact(hf i hi x hx).1
  ·intro j u hu
   have hj:j<xs.length*c.n:=by
    have:=(List.getElem?_eq_some_iff.1 hu).1
    rw [GR hlen]at this;simpa using this
   have hi:j/c.n<xs.length:=Nat.div_lt_of_lt_mul (by rw [Nat.mul_comm];exact hj)
   have hd:j/c.n*c.n+j%c.n=j:=by rw [Nat.mul_comm];exact Nat.div_add_mod j c.n
   have hg:=IY (uss:=(List.range xs.length).map f) (i:=j/c.n) (q:=j%c.n) (us:=f (j/c.n)) hlen (by simp [hi]) (Nat.mod_lt _ hn)
   rw [hd,hu]at hg
   have:=(hf _ hi _ (List.getElem?_eq_getElem hi)).2 (j%c.n) u hg.symm
   rw [show off+j/c.n*c.n+j%c.n=off+j by omega]at this;exact this.1
 ·refine⟨[],by simp;omega,by simp,fun i x us hx hus=>by simp at hus,a,cap,rfl,h2.2,.inl (by omega)⟩
theorem RD{P:Value->Bool}:∀{uss:List (List Value)},(∀us∈uss,us.all P=true)->∀u∈Bm uss,P u=true
 |[],_=>by simp [Bm]
 |us::uss,h=>by
  intro u hu
  simp only [Bm,List.mem_append]at hu
  rcases hu with hu|hu
  ·exact List.all_eq_true.1 (h us (List.mem_cons_self ..)) u hu
  ·exact RD (fun x hx=>h x (List.mem_cons_of_mem _ hx)) u hu
section
variable {P:Program} {N:Nat} {α:Type} {c:Co α} {w:World} {B:Nat} {S S' S2:Nat -> Prop} {e:TypeId} {xs ys zs:List α} {v:Value} {o:Oper} {K:KL}
def AO(w w':World)(v v':Value):Prop:=w.grownBy w' v.ownBlock∧∀g,v'.ownBlock=some g->v.ownBlock=some g∨w.heap.size<=g
theorem LI{t x y u zc sz by'}(ho:o.op= .call { callee:=.builtin .append,args:=#[x,y],argTypes:=#[t,t] })(hu:P.underlying t=some (.slice e))(hi:DL P e=some (zc,sz,by'))(hsz:sz=c.n)(hzc:zc.length=sz)
 (hpos:Nat.blt 0 c.n=true) (hx:CK K x=some v) (hy:CK K y=some u) (hs:AC c w B S e xs v) (hb:B<=w.heap.size) (hr:AE c w S2 ys u) (ha:Bk xs ys by'=some zs)
 (hS:∀k,S k->S' k) (hS2:∀x us,c.rep w S2 x us->c.rep w S' x us) (hS3:∀k,S' k->k<w.heap.size∧v.ownBlock≠some k):
 JY P N K o w (fun v' w'=>AC c w' B S' e zs v'∧AO w w' v v'):=by
 have hp:0<c.n:=by have h:=hpos;simp [Nat.blt]at h;omega
 obtain⟨cs,h0,h3⟩:=hs
 obtain⟨uss,hul,hun,hur,a,cap,rfl,hnone,hcase⟩:=AE.all' hr hp
 unfold DL at hi
 obtain⟨i,hi1,hi2⟩:=Option.bind_eq_some_iff.1 hi
 obtain⟨z,hz1,hz2⟩:=Option.map_eq_some_iff.1 hi2
 simp only [Prod.mk.injEq]at hz2
 obtain⟨e1,e2,e3⟩:=hz2
 unfold Bk at ha
 split at ha
 case isFalse=>cases ha
 rename_i hbound
 injection ha with ha;subst ha
 intro a' hK Kt Q hk
 have hcl:(Bm uss).length=ys.length*c.n:=by rw [GR hun,hul]
 have elems:∀(w':World),w.grownBy w' v.ownBlock->∀q x,(xs++ys)[q]? =some x->c.rep w' S' x (BM (cs++Bm uss) c.n q):=by
  intro w' hgr q x hx2
  have keep:∀k,S' k->w'.heap[k]? =w.heap[k]?:=fun k hk=>hgr.block k (hS3 k hk).1 (fun e=>(hS3 k hk).2 e.symm)
  by_cases hq:q<xs.length
  ·rw [List.getElem?_append_left hq]at hx2
   have e4:BM (cs++Bm uss) c.n q=BM cs c.n q:=by
    apply List.ext_getElem?
    intro j
    by_cases hj:j<c.n
    ·rw [Bn hj,Bn hj,List.getElem?_append_left]
     have:(q+1)*c.n<=xs.length*c.n:=Nat.mul_le_mul_right _ hq
     rw [Nat.add_mul]at this;rw [h0.1];omega
    ·rw [List.getElem?_eq_none (by simp [BM];omega),List.getElem?_eq_none (by simp [BM];omega)]
   rw [e4];exact c.mono (h3 q x hx2) hS (fun k hk=>keep k (hS k hk))
  ·rw [List.getElem?_append_right (by omega)]at hx2
   have hq2:q-xs.length<uss.length:=by rw [hul];exact(List.getElem?_eq_some_iff.1 hx2).1
   have e4:BM (cs++Bm uss) c.n q=uss[q-xs.length]:=by
    have:=KX (i:=q-xs.length) hun (List.getElem?_eq_getElem hq2)
    rw [←this]
    apply List.ext_getElem?
    intro j
    by_cases hj:j<c.n
    ·rw [Bn hj,Bn hj]
     have h5:xs.length*c.n<=q*c.n:=Nat.mul_le_mul_right _ (by omega)
     rw [List.getElem?_append_right (by rw [h0.1];omega)]
     congr 1
     rw [h0.1,Nat.sub_mul];omega
    ·rw [List.getElem?_eq_none (by simp [BM];omega),List.getElem?_eq_none (by simp [BM];omega)]
   rw [e4];exact c.mono (hS2 _ _ (hur _ x _ hx2 (List.getElem?_eq_getElem hq2))) (fun _ h=>h) (fun k hk=>keep k hk)
 have hzs2:z.cells.size=c.n:=by rw [←hsz,←hzc,←e1];simp
 have one:∀u∈Bm uss,u.oneCell'=true:=RD fun us hus=>by
  obtain⟨q,hq,rfl⟩:=List.mem_iff_getElem.1 hus
  exact c.one (hur q _ _ (List.getElem?_eq_getElem (by omega)) (List.getElem?_eq_getElem hq))
 have step:∀v' w',(Builtin.append_ #[t,t] o.type #[v,.slice a ys.length cap]).run P w= .ok v' w'->(execOp a'.eval o).run P w= .ok (.value v') w':=by
  intro v' w' hrun
  unfold execOp
  simp only [ho,resolve,invoke,builtin,Sem.run_bind,Sem.run_pure,Result.andThen_ok,List.map_toArray,List.map_cons,List.map_nil,hK.ev hx,hK.ev hy,hrun]
 cases a with
 |none=>
  have hc0:=hnone rfl
  subst hc0
  have hy0:ys.length=0:=by
   rcases hcase with h|⟨b,off,h,_⟩
   ·exact h
   ·cases h
  have hys:ys=[]:=List.eq_nil_of_length_eq_zero hy0
  subst hys
  have hrun:=run_append_owned_none (P:=P) w B t o.type e i c.n hu hi1 v xs.length cs h0
  unfold Oper.wp
  rw [step v w hrun]
  have hgr:w.grownBy w v.ownBlock:=World.grownBy.refl w _
  have huss:uss=[]:=List.eq_nil_of_length_eq_zero (by simpa using hul)
  subst huss
  refine hk _ _ ⟨⟨cs,by simpa using h0,fun q x hx2=>?_⟩,hgr,fun g hg=>.inl hg⟩
  have:=elems w hgr q x hx2
  simpa [Bm] using this
 |some ad=>
  have hnews:∀j u,(Bm uss)[j]? =some u->w.cell? (ad.add j)=some u:=by
   intro j u hu2
   rcases hcase with h|⟨b,off,h,_,h5⟩
   ·have:uss=[]:=List.eq_nil_of_length_eq_zero (by omega)
    subst this;simp [Bm]at hu2
   ·injection h with h;subst h
    rw [Ch];exact h5 j u hu2
  have hb2:(xs.length+ys.length)*by'<=140737488355328:=hbound.1
  obtain⟨v',w',hrun,hown,hgr,_⟩:=run_append_own (P:=P) w B t o.type e i z c.n by' hu hi1 hz1 (by rw [e2,hsz]) e3 hzs2 hp v xs.length cs h0 ad ys.length cap (Bm uss) hcl hnews one (by simp only [maxLen];omega) hb2 hb
  have hfresh:∀g,v'.ownBlock=some g->v.ownBlock=some g∨w.heap.size<=g:=by
   rcases h0.2 with ⟨rfl,hn⟩|⟨g0,cap0,cur,rfl,hbg,hh,h5,h6,h7,h8⟩
   ·have hnil:w.ownsRow w.heap.size e c.n (.slice none 0 0) xs.length cs:=⟨h0.1,.inl ⟨rfl,hn⟩⟩
    obtain⟨v2,w2,hrun2,hown2,_⟩:=run_append_own (P:=P) w w.heap.size t o.type e i z c.n by' hu hi1 hz1 (by rw [e2,hsz]) e3 hzs2 hp _ xs.length cs hnil ad ys.length cap (Bm uss) hcl hnews one (by simp only [maxLen];omega) hb2 (Nat.le_refl _)
    rw [hrun]at hrun2
    injection hrun2 with e5 e6
    subst e5
    intro g hg;exact .inr (hown2.lt g hg).1
   ·by_cases hroom:xs.length+ys.length<=cap0
    ·have hfit:xs.length*i.size+(Bm uss).length<=cur.size:=by
      rw [hcl,h7,e2,hsz,←Nat.add_mul];exact Nat.mul_le_mul_right _ hroom
     have hr2:=run_append_room (P:=P) w t o.type e i hu hi1 g0 xs.length cap0 cur hh ad ys.length cap (Bm uss) (by rw [e2,hsz];exact hcl) hnews one hroom hfit
     rw [hrun]at hr2
     injection hr2 with e5 e6
     subst e5
     intro g hg;exact .inl hg
    ·have holds:∀j u,cs[j]? =some u->w.cell? ((⟨g0,0,none⟩:Addr).add j)=some u:=h0.cells (g:=g0) rfl
     have hr2:=run_append_grow (P:=P) w t o.type e i z hu hi1 hz1 ⟨g0,0,none⟩ xs.length cap0 cs (by rw [e2,hsz];exact h0.1) holds ad ys.length cap (Bm uss) (by rw [e2,hsz];exact hcl) hnews (by omega) (by omega) (growslice_fits (by omega) (by rw [e3];exact hb2))
     rw [hrun]at hr2
     injection hr2 with e5 e6
     subst e5
     intro g hg
     simp [Value.ownBlock]at hg
     exact .inr (by omega)
  unfold Oper.wp
  rw [step v' w' hrun]
  exact hk _ _ ⟨⟨cs++Bm uss,by simpa using hown,elems w' hgr⟩,hgr,hfresh⟩
end
end Go.Eng
namespace Go.Eng
open Go Go.RowKit
/-! ## Literals -/
def JX(pl:List (Nat×Nat)):List Value->List (Nat×List Value)->Option (List Value)
 |zs,[]=>some zs
 |zs,(i,us)::ps=>match pl[i]? with
  |none=>none
  |some (off,size)=>if Nat.beq us.length size&&Nat.ble (off+us.length) zs.length then JX pl (zs.take off++us++zs.drop (off+us.length)) ps else none
theorem Rt(us:List Value):∀(off k:Nat) (cs:Array Value),off+k+us.length<=cs.size->
 ((us.zipIdx k).foldl (fun cs (p:Value×Nat)=>cs.setIfInBounds (off+p.2) p.1) cs).toList=cs.toList.take (off+k)++us++cs.toList.drop (off+k+us.length):=by
 induction us with
 |nil=>intro off k cs h;simp
 |cons u us ih=>
  intro off k cs h
  simp only [List.length_cons]at h
  simp only [List.zipIdx_cons,List.foldl_cons]
  rw [ih off (k+1) _ (by simp;omega)]
  apply List.ext_getElem?
  intro j
  simp only [Array.toList_setIfInBounds,List.length_cons]
  have e1:off+(k+1)=off+k+1:=by omega
  have e2:off+k+1+us.length=off+k+(us.length+1):=by omega
  rw [e1,e2]
  have hl:(cs.toList.take (off+k)).length=off+k:=by simp;omega
  have hl2:((cs.toList.set (off+k) u).take (off+k+1)).length=off+k+1:=by simp;omega
  by_cases h1:j<off+k
  ·rw [List.append_assoc,List.getElem?_append_left (by omega),List.append_assoc,List.getElem?_append_left (by omega),List.getElem?_take,List.getElem?_take,if_pos (by omega),if_pos h1,List.getElem?_set_ne (by omega)]
  ·by_cases h2:j=off+k
   ·subst h2
    rw [List.append_assoc,List.getElem?_append_left (by omega),List.append_assoc,List.getElem?_append_right (by omega),hl,List.getElem?_take,if_pos (by omega),List.getElem?_set_self (by simp;omega)]
    simp
   ·by_cases h3:j<off+k+(us.length+1)
    ·rw [List.append_assoc,List.getElem?_append_right (by omega),hl2,List.getElem?_append_left (by omega),List.append_assoc,List.getElem?_append_right (by omega),hl,List.cons_append,show j-(off+k)=(j-(off+k+1))+1 by omega,List.getElem?_cons_succ,List.getElem?_append_left (by omega)]
    ·rw [List.getElem?_append_right (by simp;omega),List.getElem?_append_right (by simp;omega),List.getElem?_drop,List.getElem?_drop]
     simp only [List.length_append,hl,hl2,List.length_cons]
     rw [List.getElem?_set_ne (by omega)]
     congr 1;omega
theorem Mc{place:Nat->Option (Nat×Nat)}{pl:List (Nat×Nat)}(hp:∀i x,pl[i]? =some x->place i=some x):∀(ps:List (Nat×Value)) (uss:List (Nat×List Value)) (cs:Array Value) (out:List Value),
 ps.map (fun p=>(p.1,p.2.cells.toList))=uss->JX pl cs.toList uss=some out->Instr.fill place cs ps=some out.toArray
 |[],uss,cs,out,h,hf=>by
  simp at h;subst h
  simp [JX]at hf;subst hf
  simp [Instr.fill]
 |(i,v)::ps,uss,cs,out,h,hf=>by
  simp at h;subst h
  simp only [JX]at hf
  split at hf
  ·cases hf
  ·rename_i off size hpl
   split at hf
   ·rename_i hc
    simp only [Bool.and_eq_true,Array.length_toList]at hc
    have hc1:v.cells.size=size:=Nat.eq_of_beq_eq_true hc.1
    have hc2:off+v.cells.size<=cs.size:=Nat.le_of_ble_eq_true hc.2
    rw [Instr.fill,hp i _ hpl]
    simp only
    rw [if_neg (by simp [hc1];omega)]
    refine Mc hp ps _ _ out rfl ?_
    have:=Rt v.cells.toList off 0 cs (by simp;omega)
    have e:(v.cells.zipIdx.foldl (fun cs (p:Value×Nat)=>cs.setIfInBounds (off+p.2) p.1) cs).toList=cs.toList.take off++v.cells.toList++cs.toList.drop (off+v.cells.toList.length):=by
     rw [←Array.foldl_toList,Array.toList_zipIdx]
     simpa using this
    rw [e];exact hf
   ·cases hf
def Cd(P:Program)(t:Nat):Option (List (Nat×Nat)):=
 match P.underlying t with
 |some (.struct fs)=>fs.toList.mapM fun f=>(P.info? f.type).map fun i=>(f.offset,i.size)
 |some (.array n e)=>(P.info? e).map fun i=>(List.range n).map fun k=>(k*i.size,i.size)
 |_=>none
def Iy(K:KL):List (Nat×Operand)->Option (List (Nat×Value))
 |[]=>some []
 |(i,x)::xs=>match CK K x,Iy K xs with|some v,some vs=>some ((i,v)::vs)|_,_=>none
section
variable {P:Program} {N:Nat} {α:Type} {c:Co α} {w:World} {B:Nat} {S S':Nat -> Prop} {e:TypeId} {xs ys zs:List α} {v:Value} {o:Oper} {K:KL}
theorem Kn.parts{a}(h:Kn N K a):∀{xs vs},Iy K xs=some vs->xs.map (fun(p:Nat×Operand)=>(p.1,a.eval p.2))=vs
 |[],vs,e=>by simp [Iy]at e;subst e;rfl
 |(i,x)::xs,vs,e=>by
  unfold Iy at e
  split at e
  ·rename_i v vs' h1 h2
   injection e with e;subst e
   simp [h.ev h1,h.parts h2]
  ·cases e
theorem Pr{fs:List Field}{pl:List (Nat×Nat)}(h:fs.mapM (fun f=>(P.info? f.type).map fun i=>(f.offset,i.size))=some pl)(w:World):
 (fs.mapM (m:=Sem) fun f=>do pure (f.offset,←sizeOf f.type)).run P w= .ok pl w:=by
 induction fs generalizing pl with
 |nil=>simp at h;subst h;simp
 |cons f fs ih=>
  simp only [List.mapM_cons,Option.bind_eq_bind,Option.bind_eq_some_iff,Option.pure_def,Option.some.injEq]at h
  obtain⟨p,h1,ps,h2,rfl⟩:=h
  obtain⟨i,hi,rfl⟩:=Option.map_eq_some_iff.1 h1
  have:=ih h2
  simp [List.mapM_cons,sizeOf,typeInfo,hi]at this ⊢
  simp [this]
theorem Ap{t parts vs uss zc pl out}(ho:o.op= .build t parts)(hp:Iy K parts.toList=some vs)(hz:Du P t=some zc)(hpl:Cd P t=some pl)
 (hu:vs.map (fun p=>(p.1,p.2.cells.toList))=uss) (hf:JX pl zc uss=some out):EH P N K o w (.agg out.toArray):=by
 intro a hK w' _
 have e1:=hK.parts hp
 unfold Du at hz
 obtain⟨i,hi,hz2⟩:=Option.bind_eq_some_iff.1 hz
 obtain⟨z,hz3,hz4⟩:=Option.map_eq_some_iff.1 hz2
 have ep:(parts.map fun(p:Nat×Operand)=>(p.1,a.eval p.2)).toList=vs:=by rw [Array.toList_map];exact e1
 unfold Cd at hpl
 split at hpl
 ·rename_i fs hus
  have hr:=Pr hpl w'
  have hfill:=Mc (place:=fun i=>pl[i]?) (pl:=pl) (fun i x h=>h) vs uss z.cells out hu (by rw [hz4];exact hf)
  simp only [execOp,ho,Instr.build,zeroValue,typeInfo,Sem.run_bind,Result.andThen_ok,Sem.run_pure,run_underlying hus]
  have hm:(fs.mapM (m:=Sem) fun f=>do pure (f.offset,←sizeOf f.type)).run P w'= .ok pl.toArray w':=by
   rw [show fs=fs.toList.toArray by simp,List.mapM_toArray]
   have hr':=hr
   simp at hr' ⊢
   simp [hr']
  simp [hi,hz3]
  simp at hm
  rw [hm]
  have ep2:(Array.map (fun x=>(x.fst,a.eval x.snd)) parts).toList=vs:=ep
  simp at ep2
  simp [ep2,hfill]
 ·rename_i n e hus
  obtain⟨j,hj,rfl⟩:=Option.map_eq_some_iff.1 hpl
  have hfill:=Mc (place:=fun i=>some (i*j.size,j.size)) (pl:=(List.range n).map fun k=>(k*j.size,j.size)) (fun i x h=>by
   have hin:i<n:=by have:=(List.getElem?_eq_some_iff.1 h).1;simpa using this
   simpa [hin] using h) vs uss z.cells out hu (by rw [hz4];exact hf)
  have ep2:(Array.map (fun x=>(x.fst,a.eval x.snd)) parts).toList=vs:=ep
  simp at ep2
  simp [execOp,ho,Instr.build,zeroValue,typeInfo,run_underlying hus,hi,hz3,sizeOf,hj,ep2,hfill]
 ·cases hpl
theorem Gh{t len parts vs uss zc sz by' out}(ho:o.op= .buildSlice t len parts)(hu:P.underlying t=some (.slice e))(hi:DL P e=some (zc,sz,by'))(hp:Iy K parts.toList=some vs)
 (huss:vs.map (fun p=>(p.1,p.2.cells.toList))=uss) (hf:JX ((List.range len).map fun k=>(k*sz,sz)) (madeCells zc.toArray (len*sz)).toList uss=some out)
 (hsm:Nat.ble (len*sz) 16777216=true) (hsz:sz=c.n) (hpos:Nat.blt 0 c.n=true) (hl:len=xs.length) (hrep:∀i x,xs[i]? =some x->c.rep w S x (BM out c.n i)) (hS:∀k,S k->k<w.heap.size) (hol:out.length=len*sz):
 JY P N K o w (fun u w'=>∃g,u= .slice (some ⟨g,0,none⟩) len len∧g=w.heap.size∧w'.heap.size=w.heap.size+1∧AS w w'∧AC c w' g S e xs u):=by
 intro a hK Kt Q hk
 have e1:=hK.parts hp
 unfold DL at hi
 obtain⟨i,hi1,hi2⟩:=Option.bind_eq_some_iff.1 hi
 obtain⟨z,hz1,hz2⟩:=Option.map_eq_some_iff.1 hi2
 simp only [Prod.mk.injEq]at hz2
 obtain⟨e3,e4,e5⟩:=hz2
 have hsm:=Nat.le_of_ble_eq_true hsm
 have ep:(parts.map fun(p:Nat×Operand)=>(p.1,a.eval p.2)).toList=vs:=by rw [Array.toList_map];exact e1
 have hzc:z.cells=zc.toArray:=by rw [←e3]
 have hfill:=Mc (place:=fun i=>some (i*sz,sz)) (pl:=(List.range len).map fun k=>(k*sz,sz)) (fun i x h=>by
  have hin:i<len:=by have:=(List.getElem?_eq_some_iff.1 h).1;simpa using this
  simpa [hin] using h) vs uss (madeCells zc.toArray (len*sz)) out huss hf
 have hr:(execOp a.eval o).run P w= .ok (.value (.slice (some ⟨w.heap.size,0,none⟩) len len)) (w.alloc (.cells out.toArray e)):=by
  have ep2:(Array.map (fun x=>(x.fst,a.eval x.snd)) parts).toList=vs:=ep
  have hle:¬(16777216<len*sz):=by omega
  by_cases h0:len*sz=0
  ·have hm:madeCells zc.toArray (len*sz)= #[]:=by rw [h0];simp [madeCells]
   rw [hm]at hfill
   simp at ep2
   simp [execOp,ho,Instr.buildSlice,run_underlying hu,sizeOf,typeInfo,hi1,e4,h0,ep2,Array.range_zero']
   skip
   simp [hfill,newRow,newObj]
   try simp [Sem.run,Result.andThen]
  ·simp at ep2
   simp [execOp,ho,Instr.buildSlice,run_underlying hu,sizeOf,typeInfo,hi1,e4,h0,hle,ep2,zeroValue,hz1]
   have hm:(Array.map (fun x=>z.cells[x%z.cells.size]!) (Array.range (len*sz)))=madeCells zc.toArray (len*sz):=by rw [hzc];rfl
   skip
   simp [hm,hfill,newRow,newObj]
   try simp [Sem.run,Result.andThen]
 unfold Oper.wp
 rw [hr]
 refine hk _ _ ⟨w.heap.size,rfl,rfl,by simp,AS.alloc _ _,out,?_,fun q x hx=>c.mono (hrep q x hx) (fun _ h=>h) (fun k hk=>Below.heap_alloc w _ k (hS k hk))⟩
 have h1:=World.ownsRow_lit (e:=e) (size:=c.n) w out.toArray len (Nat.le_refl w.heap.size) (by
  have:len<=len*sz:=Nat.le_mul_of_pos_right _ (by have h:=hpos;simp [Nat.blt]at h;omega)
  simp only [maxLen];omega) (by simp [hol,hsz])
 rw [←hl]
 simpa using h1
end
end Go.Eng
namespace Go.Eng
open Go Go.RowKit
/-! ## Regions whose order is drawn, with operations that act -/
section
variable {P:Program} {N:Nat} {ops:Array Oper} {Q:Exit -> Act -> World -> Prop} {md:Region.Mode} {S S':World -> Prop} {n:Nat}
def Ct(P:Program)(md:Region.Mode)(ops:Array Oper)(n:Nat)(Q:Exit->Act->World->Prop)(S:World->Prop):Nat->Array Bool->Act->World->Prop
 |0,listed,a,w=>Region.ready md ops listed=[]∧Q .normal a w
 |f+1,listed,a,w=>(Region.ready md ops listed=[]->Q .normal a w)∧
  ∀i∈Region.ready md ops listed,wpOp P ops Q i (fun a' w'=>(i<n->S w')∧Ct P md ops n Q S f (listed.setIfInBounds i true) a' w') a w
theorem Ct.any:∀(f:Nat) (listed:Array Bool) (a:Act) (w:World),Ct P md ops n Q S f listed a w->wpAny P md ops Q f listed a w
 |0,_,_,_,h=>h
 |f+1,_,_,_,h=>⟨h.1,fun i hi=>wpOp_mono (fun a' w' h'=>Ct.any f _ a' w' h'.2) (h.2 i hi)⟩
theorem Ct.mono(hS:∀w,S' w->S w):∀(f:Nat) (listed:Array Bool) (a:Act) (w:World),Ct P md ops n Q S' f listed a w->Ct P md ops n Q S f listed a w
 |0,_,_,_,h=>h
 |f+1,_,_,_,h=>⟨h.1,fun i hi=>wpOp_mono (fun a' w' h'=>⟨fun hn=>hS _ (h'.1 hn),Ct.mono hS f _ a' w' h'.2⟩) (h.2 i hi)⟩
theorem Ct.first{i:Nat}{oi:Oper}{v:Value}(hi:ops[i]? =some oi)(hin:i<n)(hnn:n<=ops.size)(hsel:∀(j:Nat) (o:Oper) cs b,ops[j]? =some o->o.op≠ .select cs b)
 (htail:n=ops.size∨(Region.sinkB md ops n=true∧Region.chainB md ops n=true∧n<ops.size))
 (hQ:∀c a w,Q (.panic c) (a.put oi.dst v) w->Q (.panic c) a w):
 ∀(f:Nat) (listed:Array Bool) (a:Act) (w:World),HeadInv md ops n listed->
  (∀j oj,ops[j]? =some oj->j≠i->listed.getD j true=false->(∀e∈oj.after,Region.binds md e=true->e.on≠i)->oi.apart ops oj=true)->
  i∈Region.ready md ops listed->YieldsIf P ops S oi v a->S w->
  Ct P md ops n Q S f (listed.setIfInBounds i true) (a.put oi.dst v) w->Ct P md ops n Q S (f+1) listed a w:=by
 have headonly:∀listed,HeadInv md ops n listed->i∈Region.ready md ops listed->∀j∈Region.ready md ops listed,j<n:=by
  intro listed inv hr j hj
  have hjs:j<ops.size:=by
   obtain⟨_,oj,hoj,_⟩:=mem_ready.1 hj
   exact(Array.getElem?_eq_some_iff.1 hoj).1
  rcases htail with h|⟨h1,h2,h3⟩
  ·omega
  ·rcases Nat.lt_or_ge j n with h|h
   ·exact h
   ·exact absurd hj (tail_waits h1 h2 h3 inv _ i rfl hin (mem_ready.1 hr).1 j h)
 intro f
 induction f with
 |zero=>
  intro listed a w inv _ hr hy hS H
  refine⟨fun h=>(by rw [h]at hr;cases hr),fun j hj=>?_⟩
  by_cases hji:j=i
  ·subst hji;exact hy.wpOp hi hS ⟨fun _=>hS,H⟩
  ·have:=ready_mono hj hji
   rw [H.1]at this
   cases this
 |succ f ih=>
  intro listed a w inv hfree hr hy hS H
  refine⟨fun h=>(by rw [h]at hr;cases hr),fun j hj=>?_⟩
  have hjn:=headonly listed inv hr j hj
  by_cases hji:j=i
  ·subst hji;exact hy.wpOp hi hS ⟨fun _=>hS,H⟩
  ·have h1:=H.2 j (ready_mono hj hji)
   obtain⟨hjun,oj,hoj,hall⟩:=mem_ready.1 hj
   have hnot:∀e∈oj.after,Region.binds md e=true->e.on≠i:=fun e he hb heq=>by
    have h1:=hall e he hb
    rw [heq,getD_both (mem_ready.1 hr).1]at h1
    cases h1
   have h2:=wpOp_putIf hoj (hfree j oj hoj hji hjun hnot) (fun cs b=>hsel i oi cs b hi) (fun cs b=>hsel j oj cs b hoj) hQ hy h1
   have hfree':∀k ok,ops[k]? =some ok->k≠i->(listed.setIfInBounds j true).getD k true=false->
    (∀e∈ok.after,Region.binds md e=true->e.on≠i)->oi.apart ops ok=true:=fun k ok hk hki hun hno=>by
    refine hfree k ok hk hki ?_ hno
    by_cases hjk:j=k
    ·subst hjk;exact hjun
    ·rw [getD_set_ne true hjk]at hun;exact hun
   refine wpOp_mono (fun a' w' h3=>⟨fun _=>h3.2.1 hjn,ih (listed.setIfInBounds j true) a' w' (inv.set hj hjn) hfree' (ready_mono hr (Ne.symm hji)) h3.1 (h3.2.1 hjn) ?_⟩) h2
   rw [Array.setIfInBounds_comm _ _ hji]
   exact h3.2.2
theorem Ct.seq{Q':Exit->Act->World->Prop}:∀(l:List Oper) (k:Nat) (listed:Array Bool) (a:Act) (w:World),(∀j,l[j]? =ops[k+j]?)->n<=k->
 Region.seqB md ops l.length k listed=true->wpList P ops Q' l a w->Ct P md ops n Q' S l.length listed a w
 |[],k,listed,a,w,hl,hk,hB,h=>⟨by simpa [Region.seqB] using hB,h⟩
 |o::l,k,listed,a,w,hl,hk,hB,h=>by
  have h0:ops[k]? =some o:=by simpa using (hl 0).symm
  simp only [List.length_cons,Region.seqB,Bool.and_eq_true,decide_eq_true_eq]at hB
  refine⟨fun h1=>(by rw [hB.1]at h1;cases h1),fun i hi=>?_⟩
  rw [hB.1]at hi
  have hik:i=k:=by simpa using hi
  subst hik
  have hw:wpOp P ops Q' i (wpList P ops Q' l) a w:=by unfold wpOp;simp only [h0];exact h
  exact wpOp_mono (fun a' w' h'=>⟨fun h=>absurd h (by omega),Ct.seq l (i+1) _ a' w' (fun j=>by have:=hl (j+1);simpa [Nat.add_assoc,Nat.add_comm 1 j] using this) (by omega) hB.2 h'⟩) hw
def HL(P:Program)(N:Nat)(ops:Array Oper)(n:Nat)(Q:Exit->Act->World->Prop)(w0:World)(f:Nat)(listed:Array Bool)(K:KL)(w:World):Prop:=
 HeadInv .any ops n listed->AS w0 w->∀a,Kn N K a->Ct P .any ops n Q (fun w'=>AS w0 w') f listed a w
def noPan(Q:Exit->Act->World->Prop):Exit->Act->World->Prop
 | .panic _,_,_=>False
 |e,a,w=>Q e a w
def ED(ops:Array Oper)(n:Nat):Bool:=Region.noSelect ops&&Nat.ble n ops.size&&(Nat.beq n ops.size||(Region.sinkB .any ops n&&Region.chainB .any ops n&&Nat.blt n ops.size))
theorem ED.spec(h:ED ops n=true):Region.noSelect ops=true∧n<=ops.size∧(n=ops.size∨(Region.sinkB .any ops n=true∧Region.chainB .any ops n=true∧n<ops.size)):=by
 unfold ED at h
 simp only [Bool.and_eq_true,Bool.or_eq_true]at h
 refine⟨h.1.1,Nat.le_of_ble_eq_true h.1.2,?_⟩
 rcases h.2 with h|h
 ·exact .inl (Nat.eq_of_beq_eq_true h)
 ·refine .inr ⟨h.1.1,h.1.2,?_⟩
  have h2:=h.2;simp [Nat.blt]at h2;omega
variable {K:KL} {w w0:World} {f:Nat} {listed:Array Bool}
theorem HL.yld{o:Oper}{v:Value}(i:Nat)(hh:ED ops n=true)(hi:ops[i]? =some o)(hc:(Nat.blt i n&&Region.free .any ops listed i&&(Region.ready .any ops listed).contains i)=true)(hg:o.guard=none)(hd:DD N o.dst=true)
 (h:EH P N K o w0 v) (k:HL P N ops n (noPan Q) w0 f (listed.setIfInBounds i true) (Do K o.dst v) w):HL P N ops n (noPan Q) w0 (f+1) listed K w:=by
 intro inv hx a hK
 obtain⟨hs,hn,ht⟩:=ED.spec hh
 simp only [Bool.and_eq_true]at hc
 have hin:i<n:=by have h2:=hc.1.1;simp [Nat.blt]at h2;omega
 have hr:i∈Region.ready .any ops listed:=by simpa using hc.2
 refine Ct.first hi hin hn (Region.noSelect_spec hs) ht (fun c a w h=>h.elim) f listed a w inv (Region.free_spec hi hc.1.2) hr ?_ hx (k (inv.set hr hin) hx _ (hK.put (DD.h hd)))
 exact .inl ⟨by simp [Region.wanted,hg],fun w' hw'=>h a hK w' hw'⟩
theorem HL.eff{o:Oper}{R:Value->World->Prop}(i:Nat)(hi:ops[i]? =some o)(hin:Nat.blt i n=true)(hr:Region.ready .any ops listed=[i])(hg:o.guard=none)(hd:DD N o.dst=true)
 (h:JY P N K o w R) (k:∀v w',R v w'->AS w0 w'∧HL P N ops n (noPan Q) w0 f (listed.setIfInBounds i true) (Do K o.dst v) w'):HL P N ops n (noPan Q) w0 (f+1) listed K w:=by
 intro inv hx a hK
 have hin':i<n:=by have h2:=hin;simp [Nat.blt]at h2;omega
 have hri:i∈Region.ready .any ops listed:=by rw [hr];simp
 refine⟨fun h0=>(by rw [h0]at hr;cases hr),fun j hj=>?_⟩
 rw [hr]at hj
 have hji:j=i:=by simpa using hj
 subst hji
 unfold wpOp
 simp only [hi]
 rw [if_pos (by simp [Region.wanted,hg])]
 refine .inl (h a hK _ _ fun u w' hR=>?_)
 obtain⟨h1,h2⟩:=k u w' hR
 exact⟨fun _=>h1,h2 (inv.set hri hin') h1 _ (hK.put (DD.h hd))⟩
theorem HL.shrink(h:HL P N ops n Q w f listed K w):HL P N ops n Q w0 f listed K w:=by
 intro inv hx a hK
 exact Ct.mono (fun w2 h2=>AS.trans hx h2) _ _ _ _ (h inv (AS.refl w) a hK)
theorem HL.tail{l:List Oper}(hops:ops=l.toArray)(hseq:Region.seqB .any ops (l.drop n).length n listed=true)(hf:f=(l.drop n).length)(k:TL P N ops (noPan Q) (l.drop n) K w):HL P N ops n (noPan Q) w0 f listed K w:=by
 intro inv hx a hK
 rw [hf]
 exact Ct.seq (l.drop n) n listed a w (fun j=>by rw [hops,List.getElem?_drop];simp) (Nat.le_refl n) hseq (k a hK)
theorem HL.done(hr:Region.ready .any ops listed=[])(h:NX N Q .normal K w):HL P N ops n (noPan Q) w0 f listed K w:=by
 intro inv hx a hK
 cases f with
 |zero=>exact⟨hr,h a hK⟩
 |succ f=>exact⟨fun _=>h a hK,by rw [hr];simp⟩
theorem WC.held{id:Nat}{l:List Oper}(n:Nat)(hm:P.follows .mixedOrders=true)
 (h:∀w',AS w w'->HL P N l.toArray n (noPan Q) w' l.length (Array.replicate l.length false) K w'):WC P N (.region id l.toArray true) Q K w:=by
 intro a hK
 have inv0:HeadInv .any l.toArray n (Array.replicate l.length false):=
  ⟨by simp,fun j oj _ hl=>(by rw [getD_replicate_false]at hl;cases hl),fun t _ ht=>getD_in (by simpa using ht) (getD_replicate_false _ _)⟩
 refine Code.wp_mono ?_ (wp_region_any hm (Ct.any _ _ _ _ (h w.drew (AS.drew w) (by simpa using inv0) (AS.refl _) a hK)))
 intro e a w hq
 cases e<;>first|exact hq|exact hq.elim
theorem TL.noPan{l:List Oper}(h:NX N Q .normal K w):TL P N ops (noPan Q) [] K w:=fun a hK=>h a hK
end
/-! ## More operations -/
section
variable {P:Program} {N:Nat} {α:Type} {c:Co α} {w:World} {S:Nat -> Prop} {xs:List α} {v:Value} {o:Oper} {K:KL}
theorem Ax{x a}(ho:o.op= .nilCheck x)(hx:CK K x=some (.pointer (some a))):EH P N K o w (.pointer (some a)):=by
 intro a hK w' _
 simp [execOp,ho,hK.ev hx]
def Hd{α:Type}(xs:List α)(lo hi:Int):Option (List α):=if 0<=lo∧lo<=hi∧hi<=xs.length then some ((xs.take hi.toNat).drop lo.toNat)else none
theorem EF{k:IntKind}{i:Int}{y:Nat}{code:BoundsCode}{w:World}(h0:0<=i)(h1:i<=y):(Instr.sliceBound (.int k i) y code).run P w= .ok i.toNat w:=by
 simp [Instr.sliceBound,asIntOf,h0,h1]
theorem NO{e:TypeId}{a:Option Addr}{cap:Nat}{lo hi:Int}(h1:xs.length<=cap∧(a=none->cap=0))(h3:cap<=9223372036854775807)
 (h4:0<xs.length->∃b off,a=some ⟨b,off,none⟩∧S b∧∀i x,xs[i]? =some x->∃us,c.rep w S x us∧AP w b (off+i*c.n) us)
 (g0:0<=lo) (g1:lo<=hi) (g2:hi<=xs.length):
 AE c w S ((xs.take hi.toNat).drop lo.toNat) (.slice (if cap=lo.toNat then a else a.map (·.add (lo.toNat*c.n))) (hi.toNat-lo.toNat) (cap-lo.toNat)):=by
 have hl:((xs.take hi.toNat).drop lo.toNat).length=hi.toNat-lo.toNat:=by simp;omega
 refine⟨_,_,by rw [hl],⟨by rw [hl];omega,fun h=>?_⟩,by omega,fun hpos=>?_⟩
 ·split at h
  ·omega
  ·have:a=none:=by cases a<;>simp_all
   have:=h1.2 this;omega
 ·rw [hl]at hpos
  obtain⟨b,off,rfl,hb,h5⟩:=h4 (by omega)
  rw [if_neg (by omega)]
  refine⟨b,off+lo.toNat*c.n,by simp [Ch],hb,fun i x hx=>?_⟩
  rw [List.getElem?_drop,List.getElem?_take]at hx
  split at hx
  ·obtain⟨us,h6,h7⟩:=h5 _ _ hx
   refine⟨us,h6,?_⟩
   have e1:off+lo.toNat*c.n+i*c.n=off+(lo.toNat+i)*c.n:=by rw [Nat.add_mul];omega
   rw [e1];exact h7
  ·cases hx
theorem VG{t x lo hi e k1 k2 m1 m2 zs}(ho:o.op= .slice t x (some lo) (some hi) none)(hu:P.underlying t=some (.slice e))(hc:BX P e=some c.n)(hx:CK K x=some v)(h1:CK K lo=some (.int k1 m1))(h2:CK K hi=some (.int k2 m2))
 (hs:AE c w S xs v) (hz:Hd xs m1 m2=some zs):YE P N K o w (fun u=>AE c w S zs u):=by
 obtain⟨a,cap,rfl,g1,g3,g4⟩:=hs
 unfold Hd at hz
 split at hz
 ·rename_i hb
  injection hz with hz;subst hz
  obtain⟨i,hi2,hsz⟩:=Option.map_eq_some_iff.1 hc
  refine⟨_,fun a' hK w' he=>?_,NO (e:=e) g1 g3 g4 hb.1 hb.2.1 hb.2.2⟩
  have e1:(Instr.sliceBound (.int k2 m2) cap .sliceAcap).run P w'= .ok m2.toNat w':=EF (by omega) (by omega)
  have e2:(Instr.sliceBound (.int k1 m1) m2.toNat .sliceB).run P w'= .ok m1.toNat w':=EF (by omega) (by omega)
  simp [execOp,ho,hK.ev hx,hK.ev h1,hK.ev h2,Instr.sliceAt,Instr.slice,run_underlying hu,Instr.sliceBounds,e1,e2,sizeOf,typeInfo,hi2,hsz]
 ·cases hz
theorem MP{t x hi e k2 m2 zs}(ho:o.op= .slice t x none (some hi) none)(hu:P.underlying t=some (.slice e))(hc:BX P e=some c.n)(hx:CK K x=some v)(h2:CK K hi=some (.int k2 m2))
 (hs:AE c w S xs v) (hz:Hd xs 0 m2=some zs):YE P N K o w (fun u=>AE c w S zs u):=by
 obtain⟨a,cap,rfl,g1,g3,g4⟩:=hs
 unfold Hd at hz
 split at hz
 ·rename_i hb
  injection hz with hz;subst hz
  obtain⟨i,hi2,hsz⟩:=Option.map_eq_some_iff.1 hc
  refine⟨_,fun a' hK w' he=>?_,NO (e:=e) g1 g3 g4 hb.1 hb.2.1 hb.2.2⟩
  have e1:(Instr.sliceBound (.int k2 m2) cap .sliceAcap).run P w'= .ok m2.toNat w':=EF (by omega) (by omega)
  simp [execOp,ho,hK.ev hx,hK.ev h2,Instr.sliceAt,Instr.slice,run_underlying hu,Instr.sliceBounds,e1,sizeOf,typeInfo,hi2,hsz]
 ·cases hz
theorem Nm{t x lo e k1 m1 zs}(ho:o.op= .slice t x (some lo) none none)(hu:P.underlying t=some (.slice e))(hc:BX P e=some c.n)(hx:CK K x=some v)(h1:CK K lo=some (.int k1 m1))
 (hs:AE c w S xs v) (hz:Hd xs m1 xs.length=some zs):YE P N K o w (fun u=>AE c w S zs u):=by
 obtain⟨a,cap,rfl,g1,g3,g4⟩:=hs
 unfold Hd at hz
 split at hz
 ·rename_i hb
  injection hz with hz;subst hz
  obtain⟨i,hi2,hsz⟩:=Option.map_eq_some_iff.1 hc
  refine⟨_,fun a' hK w' he=>?_,NO (e:=e) g1 g3 g4 hb.1 hb.2.1 hb.2.2⟩
  have e2:(Instr.sliceBound (.int k1 m1) xs.length .sliceB).run P w'= .ok m1.toNat w':=EF (by omega) (by omega)
  simp [execOp,ho,hK.ev hx,hK.ev h1,Instr.sliceAt,Instr.slice,run_underlying hu,Instr.sliceBounds,e2,sizeOf,typeInfo,hi2,hsz]
 ·cases hz
def OQ(s:ByteArray)(i:Int):Option Int:=if 0<=i then(s[i.toNat]?).map fun b=>(b.toNat:Int)else none
theorem FK{t x i s k m b}(ho:o.op= .index t x i)(hu:P.underlying t=some .string)(hx:CK K x=some (.string s))(hi:CK K i=some (.int k m))(hb:OQ s m=some b):EH P N K o w (.int .u8 b):=by
 intro a hK w' _
 unfold OQ at hb
 split at hb
 ·rename_i h0
  obtain⟨q,h1,rfl⟩:=Option.map_eq_some_iff.1 hb
  simp [execOp,ho,hK.ev hx,hK.ev hi,Instr.index,asIntOf,run_underlying hu,h0,h1]
 ·cases hb
end
/-! ## Slices of the call's own whose elements lead into memory -/
abbrev SX(B hi:Nat)(v:Value):Nat->Prop:=fun k=>B<=k∧k<hi∧v.ownBlock≠some k
section
variable {α:Type} {c:Co α} {w w':World} {B hi:Nat} {e:TypeId} {xs zs:List α} {v v':Value}
theorem AC.extN(h:AC c w B (SX B hi v) e xs v)(he:AS w w')(hle:hi<=w.heap.size):AC c w' B (SX B hi v) e xs v:=
 h.keep (fun g hg=>he.block g (h.blk g hg).2) (fun _ h=>h) (fun k h=>he.block k (by have:=h.2.1;omega))
theorem AC.updN{b:Nat}(h:AC c w B (SX B hi v) e xs v)(hu:GU b w w')(hne:∀g,v.ownBlock=some g->g≠b)(hb:b<B∨hi<=b:=by omega):AC c w' B (SX B hi v) e xs v:=
 h.keep (fun g hg=>hu.block g (hne g hg)) (fun _ h=>h) (fun k h=>hu.block k (by have:=h.1;have:=h.2.1;omega))
theorem AC.wideN{hi':Nat}(h:AC c w B (SX B hi v) e xs v)(hle:hi<=hi':=by omega):AC c w B (SX B hi' v) e xs v:=
 h.keep (fun _ _=>rfl) (fun k h=>⟨h.1,by have:=h.2.1;omega,h.2.2⟩) (fun _ _=>rfl)
theorem AC.slN{lo hi':Nat}(h:AC c w B (SX B hi v) e xs v)(h1:lo<=B:=by omega)(h2:w.heap.size<=hi':=by omega)(h3:hi<=hi':=by omega):AE c w (Iv lo hi') xs v:=
 h.sl (fun k h=>⟨by have:=h.1;omega,by have:=h.2.1;omega⟩) (fun k h4 h5=>⟨by omega,by omega⟩)
theorem AO.below{lo:Nat}(h:AO w w' v v')(hb:∀g,v.ownBlock=some g->lo<=g):Below lo w w'∨w.heap.size<lo:=by
 by_cases hl:lo<=w.heap.size
 ·exact .inl ⟨h.1.os,h.1.tape,h.1.output,h.1.size,fun k hk=>h.1.block k (by omega) (fun e=>by have:=hb k e.symm;omega)⟩
 ·exact .inr (by omega)
theorem AO.low{lo:Nat}(h:AO w w' v v')(hb:∀g,v.ownBlock=some g->lo<=g)(hl:lo<=w.heap.size):Below lo w w':=by
 rcases h.below hb with h|h
 ·exact h
 ·omega
theorem AO.box{b:Nat}{us:List Value}{t:TypeId}(h:AO w w' v v')(hb:Ak w b us t)(hne:∀g,v.ownBlock=some g->g≠b):Ak w' b us t:=by
 unfold Ak;rw [h.1.block b hb.lt (fun e=>hne b e.symm rfl)];exact hb
theorem AO.slr{lo hi:Nat}(h:AO w w' v v'){ys:List α}{u:Value}(hs:AE c w (Iv lo hi) ys u)(hne:∀g,v.ownBlock=some g->g<lo∨hi<=g)(hle:hi<=w.heap.size:=by omega):AE c w' (Iv lo hi) ys u:=
 hs.mono (fun _ h=>h) (fun k hk=>h.1.block k (by have:=hk.2;omega) (fun e=>by have:=hne k e.symm;have:=hk.1;have:=hk.2;omega))
theorem AO.bd{S:Nat->Prop}(h:AO w w' v v')(ho:AC c w' B S e zs v'){lo hi:Nat}(hb:∀g,v.ownBlock=some g->lo<=g∧g<hi)(hl:lo<=w.heap.size)(hh:hi<=w'.heap.size):∀g,v'.ownBlock=some g->lo<=g∧g<w'.heap.size:=fun g hg=>by
 have h1:=(ho.blk g hg).2
 rcases h.2 g hg with h2|h2
 ·exact⟨(hb g h2).1,h1⟩
 ·exact⟨by omega,h1⟩
end
section
variable {P:Program} {N:Nat} {α:Type} {c:Co α} {w:World} {B:Nat} {e:TypeId} {xs ys zs:List α} {v:Value} {o:Oper} {K:KL}
theorem Ac[Cx c]{t x y u zc sz by'}{S2:Nat->Prop}(ho:o.op= .call { callee:=.builtin .append,args:=#[x,y],argTypes:=#[t,t] })(hu:P.underlying t=some (.slice e))(hi:DL P e=some (zc,sz,by'))(hsz:sz=c.n)(hzc:zc.length=sz)
 (hpos:Nat.blt 0 c.n=true) (hx:CK K x=some v) (hy:CK K y=some u) (hs:AC c w B (Iv 0 0) e xs v) (hb:B<=w.heap.size) (hr:AE c w S2 ys u) (ha:Bk xs ys by'=some zs):
 JY P N K o w (fun v' w'=>AC c w' B (Iv 0 0) e zs v'∧AO w w' v v'):=
 LI (S':=Iv 0 0) ho hu hi hsz hzc hpos hx hy hs hb hr ha (fun _ h=>h) (fun _ _ h=>Cx.any h) (fun k h=>absurd h.2 (Nat.not_lt_zero k))
theorem Jk{t x y u zc sz by' hi lo2 hi2}(ho:o.op= .call { callee:=.builtin .append,args:=#[x,y],argTypes:=#[t,t] })(hu:P.underlying t=some (.slice e))(hi1:DL P e=some (zc,sz,by'))(hsz:sz=c.n)(hzc:zc.length=sz)
 (hpos:Nat.blt 0 c.n=true) (hx:CK K x=some v) (hy:CK K y=some u) (hs:AC c w B (SX B hi v) e xs v) (hb:B<=w.heap.size) (hle:hi<=w.heap.size) (hr:AE c w (Iv lo2 hi2) ys u)
 (h1:B<=lo2) (h2:hi2<=w.heap.size) (hne:∀g,v.ownBlock=some g->g<lo2∨hi2<=g) (ha:Bk xs ys by'=some zs):
 JY P N K o w (fun v' w'=>AC c w' B (SX B w.heap.size v') e zs v'∧AO w w' v v'):=by
 intro a hK Kt Q hk
 refine LI (S':=SX B w.heap.size v) ho hu hi1 hsz hzc hpos hx hy hs hb hr ha (fun k h=>⟨h.1,by have:=h.2.1;omega,h.2.2⟩)
  (fun _ _ h=>c.mono h (fun k hk=>⟨by have:=hk.1;omega,by have:=hk.2;omega,fun e=>by have:=hne k e;have:=hk.1;have:=hk.2;omega⟩) (fun _ _=>rfl)) (fun k h=>⟨h.2.1,h.2.2⟩) a hK Kt Q ?_
 rintro v' w' ⟨h3,h4⟩
 refine hk v' w' ⟨h3.keep (fun _ _=>rfl) (fun k h=>⟨h.1,h.2.1,fun e=>?_⟩) (fun _ _=>rfl),h4⟩
 rcases h4.2 k e with h5|h5
 ·exact h.2.2 h5
 ·have:=h.2.1;omega
end
end Go.Eng
namespace Go.Eng
open Go Go.RowKit
section
variable {α β:Type} {c:Co α} {d:Co β} {w w':World} {B hi:Nat} {e e2:TypeId} {xs zs:List α} {ys:List β} {v v' u:Value}
theorem AO.ownF[Cx d](h:AO w w' v v')(ho:AC d w B (Iv 0 0) e2 ys u)(hne:∀g q,v.ownBlock=some g->u.ownBlock=some q->g≠q):AC d w' B (Iv 0 0) e2 ys u:=
 ho.keep (fun q hq=>h.1.block q (ho.blk q hq).2 (fun e=>hne q q e.symm hq rfl)) (fun _ h=>h) (fun k h=>absurd h.2 (Nat.not_lt_zero k))
theorem AO.ownN(h:AO w w' v v')(ho:AC d w B (SX B hi u) e2 ys u)(hne:∀g q,v.ownBlock=some g->u.ownBlock=some q->g≠q)(hle:hi<=w.heap.size)(hs:∀g,v.ownBlock=some g->g<B∨hi<=g):AC d w' B (SX B hi u) e2 ys u:=
 ho.keep (fun q hq=>h.1.block q (ho.blk q hq).2 (fun e=>hne q q e.symm hq rfl)) (fun _ h=>h) (fun k hk=>h.1.block k (by have:=hk.2.1;omega) (fun e=>by have:=hs k e.symm;have:=hk.1;have:=hk.2.1;omega))
theorem AO.sepP{p:Nat->Prop}(h:AO w w' v v')(h1:∀g,v.ownBlock=some g->p g)(h2:∀g,w.heap.size<=g->p g):∀g,v'.ownBlock=some g->p g:=fun g hg=>(h.2 g hg).elim (h1 g) (h2 g)
theorem Ah{g k k2:Nat}{u:Value}(h:u= .slice (some ⟨g,0,none⟩) k k2):∀q,u.ownBlock=some q->g<=q∧q<g+1:=by
 subst h;intro q hq
 have h2:g=q:=Option.some.inj hq
 omega
theorem GD{lo hi:Nat}:∀q,(Value.slice none 0 0).ownBlock=some q->lo<=q∧q<hi:=fun q h=>by cases h
theorem AC.litN{g k k2 lo hi2:Nat}(h:AC c w g (Iv lo hi2) e xs u)(hu:u= .slice (some ⟨g,0,none⟩) k k2)(h1:lo<=g)(h2:hi2<=g):AC c w lo (SX lo g u) e xs u:=
 (h.base h1).keep (fun _ _=>rfl) (fun q hq=>⟨hq.1,by have:=hq.2;omega,fun e=>by
  subst hu
  have h3:g=q:=Option.some.inj e
  have:=hq.2;omega⟩) (fun _ _=>rfl)
end
section
variable {P:Program} {N:Nat} {α:Type} {c:Co α} {w:World} {B:Nat} {S:Nat -> Prop} {e:TypeId} {xs:List α} {v:Value} {o:Oper} {K:KL}
theorem CI{t x y b off u cur e}(ho:o.op= .store t x y)(hx:CK K x=some (.pointer (some ⟨b,off,none⟩)))(hy:CK K y=some u)(hb:Ak w b cur e)(hn:BX P t=some 1)(hcl:u.cells= #[u])(h1:u.oneCell'=true)
 (hfit:Nat.ble (off+1) cur.length=true):JY P N K o w (fun _ w'=>GU b w w'∧Ak w' b (cur.take off++[u]++cur.drop (off+1)) e):=by
 have:=Ny (N:=N) ho hx hy hb (by rw [hcl];exact hn) (by rw [hcl];simp [h1]) (by rw [hcl];exact hfit)
 rw [hcl]at this;exact this
theorem Jo{t x y u g m us us' y0 y'}(j off:Nat)(ho:o.op= .store t x y)(hx:CK K x=some (.pointer (some ⟨g,off,none⟩)))(hy:CK K y=some u)(hs:AC c w B S e xs v)
 (hg:v.ownBlock=some g) (hm:AL xs m=some y0) (hoff:off=0+m.toNat*c.n+j) (hn:BX P t=some 1) (hcu:u.cells= #[u]) (h1:u.oneCell'=true) (hrep:c.rep w S y0 us)
 (hcl:AP w g (0+m.toNat*c.n) us) (hus:us'=Gx us j [u]) (hfit:Nat.ble (j+1) us.length=true) (hrep':c.rep w S y' us') (hS:∀k,S k->k≠g):
 JY P N K o w (fun _ w'=>GU g w w'∧AC c w' B S e (xs.set m.toNat y') v):=
 BA j off ho hx hy hs hg hm hoff (by rw [hcu];exact hn) (by rw [hcu];simp [h1]) hrep hcl (by rw [hcu];exact hus) (by rw [hcu];exact hfit) hrep' hS
theorem AC.baseN{B' hi:Nat}(h:AC c w B (SX B hi v) e xs v)(hB:B'<=B):AC c w B' (SX B' hi v) e xs v:=
 (h.base hB).keep (fun _ _=>rfl) (fun k hk=>⟨by have:=hk.1;omega,hk.2⟩) (fun _ _=>rfl)
end
theorem AD{x:Value}{xs:List Value}(h:x.oneCell'=true)(h2:xs.all Value.oneCell'=true):(x::xs).all Value.oneCell'=true:=by simp [List.all_cons,h,h2]
theorem Ad:([]:List Value).all Value.oneCell'=true:=rfl
def GO:Nat->List (List Value)->List (Nat×List Value)
 |_,[]=>[]
 |k,us::uss=>(k,us)::GO (k+1) uss
theorem NE{n len:Nat}:∀(uss:List (List Value)) (k:Nat) (pre post:List Value),pre.length=k*n->post.length=uss.length*n->(∀us∈uss,us.length=n)->len=k+uss.length->
 JX ((List.range len).map fun k=>(k*n,n)) (pre++post) (GO k uss)=some (pre++Bm uss)
 |[],k,pre,post,hp,hq,ha,hl=>by
  have:post=[]:=List.eq_nil_of_length_eq_zero (by simpa using hq)
  subst this;simp [GO,JX,Bm]
 |us::uss,k,pre,post,hp,hq,ha,hl=>by
  have hus:us.length=n:=ha us (List.mem_cons_self ..)
  have hk:((List.range len).map fun k=>(k*n,n))[k]? =some (k*n,n):=by
   have:k<len:=by rw [hl,List.length_cons];omega
   simp [this]
  have hq':post.length=uss.length*n+n:=by rw [hq,List.length_cons,Nat.add_mul];omega
  have e:List.take (k*n) (pre++post)++us++List.drop (k*n+us.length) (pre++post)=(pre++us)++post.drop n:=by
   rw [←hp,List.take_left,List.drop_append,hus,List.drop_eq_nil_of_le (by omega)]
   simp
  have:=NE (len:=len) uss (k+1) (pre++us) (post.drop n) (by rw [List.length_append,hp,hus,Nat.add_mul];omega) (by rw [List.length_drop,hq'];omega) (fun x hx=>ha x (List.mem_cons_of_mem _ hx)) (by rw [hl,List.length_cons];omega)
  have hb:(Nat.beq us.length n&&Nat.ble (k*n+us.length) (pre++post).length)=true:=by
   rw [Bool.and_eq_true]
   exact⟨by rw [hus];exact Nat.beq_refl n,Nat.ble_eq_true_of_le (by rw [List.length_append,hp,hq',hus];omega)⟩
  rw [GO,JX]
  simp only [hk]
  rw [hb,e,if_pos rfl,this]
  simp [Bm]
theorem MB{n len:Nat}{zc:Array Value}{uss:List (Nat×List Value)}(uls:List (List Value))(h1:uss=GO 0 uls)(h2:uls.all (fun us=>Nat.beq us.length n)=true)(h3:uls.length=len):
 JX ((List.range len).map fun k=>(k*n,n)) (madeCells zc (len*n)).toList uss=some (Bm uls):=by
 subst h1
 have:=NE (n:=n) (len:=len) uls 0 [] (madeCells zc (len*n)).toList (by simp) (by rw [Array.length_toList,size_madeCells,h3]) (fun us hus=>Nat.eq_of_beq_eq_true (List.all_eq_true.1 h2 us hus)) (by omega)
 simpa using this
section
variable {P:Program} {N:Nat} {ops:Array Oper} {Q:Exit -> Act -> World -> Prop} {n:Nat} {K:KL} {w w0:World} {f:Nat} {listed:Array Bool}
def HB(P:Program)(N:Nat)(ops:Array Oper)(n:Nat)(Q:Exit->Act->World->Prop)(w0:World)(f:Nat)(listed:Array Bool)(K:KL)(w:World)(j:Nat):Prop:=
 HeadInv .any ops n listed->AS w0 w->∀a,Kn N K a->wpOp P ops Q j (fun a' w'=>(j<n->AS w0 w')∧Ct P .any ops n Q (fun w'=>AS w0 w') f (listed.setIfInBounds j true) a' w') a w
theorem HL.many{js:List Nat}(hr:Region.ready .any ops listed=js)(hne:js.isEmpty=false)(h:∀j∈js,HB P N ops n Q w0 f listed K w j):HL P N ops n Q w0 (f+1) listed K w:=by
 intro inv hx a hK
 refine⟨fun h0=>(by rw [hr]at h0;subst h0;cases hne),fun j hj=>?_⟩
 rw [hr]at hj
 exact h j hj inv hx a hK
theorem HB.eff{o:Oper}{R:Value->World->Prop}(i:Nat)(hi:ops[i]? =some o)(hin:Nat.blt i n=true)(hr:(Region.ready .any ops listed).contains i=true)(hg:o.guard=none)(hd:DD N o.dst=true)
 (h:JY P N K o w R) (k:∀v w',R v w'->AS w0 w'∧HL P N ops n (noPan Q) w0 f (listed.setIfInBounds i true) (Do K o.dst v) w'):HB P N ops n (noPan Q) w0 f listed K w i:=by
 intro inv hx a hK
 have hin':i<n:=by have h2:=hin;simp [Nat.blt]at h2;omega
 have hri:i∈Region.ready .any ops listed:=by simpa using hr
 unfold wpOp
 simp only [hi]
 rw [if_pos (by simp [Region.wanted,hg])]
 refine .inl (h a hK _ _ fun u w' hR=>?_)
 obtain⟨h1,h2⟩:=k u w' hR
 exact⟨fun _=>h1,h2 (inv.set hri hin') h1 _ (hK.put (DD.h hd))⟩
theorem Bt{p:Nat->Prop}{i j:Nat}(h1:p i)(h2:p j):∀k∈[i,j],p k:=by
 intro k hk
 rcases List.mem_cons.1 hk with rfl|hk
 ·exact h1
 ·obtain rfl:=List.mem_singleton.1 hk;exact h2
theorem Hv{p:Nat->Prop}{i j l:Nat}(h1:p i)(h2:p j)(h3:p l):∀k∈[i,j,l],p k:=by
 intro k hk
 rcases List.mem_cons.1 hk with rfl|hk
 ·exact h1
 ·exact Bt h2 h3 k hk
theorem WC.join{c:Code}(R:Act->World->Prop)(h1:WC P N c (fun e a w=>e= .normal∧R a w) K w)(h2:∀a w',R a w'->Q .normal a w'):WC P N c Q K w:=by
 intro a hK
 refine Code.wp_mono ?_ (h1 a hK)
 rintro e a w ⟨rfl,h⟩
 exact h2 a w h
end
theorem AC.slb{α:Type}{c:Co α}{w:World}{B lo hi:Nat}{S:Nat->Prop}{e:TypeId}{xs:List α}{v:Value}[Cx c](h:AC c w B S e xs v)(hb:∀g,v.ownBlock=some g->lo<=g∧g<hi):AE c w (Iv lo hi) xs v:=by
 obtain⟨cs,h0,h3⟩:=h
 have h1:=h0
 obtain⟨hl,⟨rfl,hn⟩|⟨g,cap,cur,rfl,_,hh,h5,h6,h7,h8⟩⟩:=h1
 ·have:xs=[]:=List.eq_nil_of_length_eq_zero hn
  subst this;exact AE.nil _ _ _
 ·refine⟨some ⟨g,0,none⟩,cap,rfl,⟨h5,fun h=>by cases h⟩,by simpa [maxLen] using h6,fun hpos=>⟨g,0,rfl,hb g rfl,fun i x hx=>⟨_,Cx.any (h3 i x hx),fun j u hu=>?_⟩⟩⟩
  have hjn:j<c.n:=by
   have:=(List.getElem?_eq_some_iff.1 hu).1
   simp [BM]at this;omega
  rw [Bn hjn]at hu
  have:=h0.cells (g:=g) rfl _ _ hu
  rw [Ch]at this
  rw [show 0+i*c.n+j=0+(i*c.n+j) by omega];exact⟨this,by simp [World.frozen?,hh]⟩
def MT{α:Type}(c:Co α)(w:World)(S:Nat->Prop):List α->List (List Value)->Prop
 |[],[]=>True
 |x::xs,us::uss=>c.rep w S x us∧MT c w S xs uss
 |_,_=>False
theorem MT.get{α:Type}{c:Co α}{w:World}{S:Nat->Prop}:∀{xs:List α} {uss:List (List Value)},MT c w S xs uss->(∀us∈uss,us.length=c.n)∧xs.length=uss.length∧∀(i:Nat) (x:α),xs[i]? =some x->∃us:List Value,uss[i]? =some us∧c.rep w S x us
 |[],[],_=>⟨by simp,rfl,fun i x h=>by simp at h⟩
 |x::xs,us::uss,⟨h1,h2⟩=>by
  obtain⟨a,b,k⟩:=MT.get h2
  refine⟨fun q hq=>?_,by simp [b],fun i y hy=>?_⟩
  ·rcases List.mem_cons.1 hq with rfl|hq
   ·exact c.len h1
   ·exact a q hq
  ·cases i with
   |zero=>simp at hy;subst hy;exact⟨us,rfl,h1⟩
   |succ i=>simpa using k i y (by simpa using hy)
theorem MT.elem{α:Type}{c:Co α}{w:World}{S:Nat->Prop}{xs:List α}{uss:List (List Value)}(h:MT c w S xs uss):∀i x,xs[i]? =some x->c.rep w S x (BM (Bm uss) c.n i):=by
 intro i x hx
 obtain⟨a,b,k⟩:=MT.get h
 obtain⟨us,h1,h2⟩:=k i x hx
 rw [KX a h1];exact h2
theorem Od{α:Type}{c:Co α}{w:World}{S:Nat->Prop}{xs:List α}{uss:List (List Value)}{out:List Value}(h:MT c w S xs uss)(ho:out=Bm uss):∀i x,xs[i]? =some x->c.rep w S x (BM out c.n i):=by
 subst ho;exact h.elem
end Go.Eng
namespace Go.Eng
open Go Go.RowKit Go.ChangeShapes Go.WideShapes Go.ChangeAt
/-! ## Arguments, as they are read -/
def Rd{α:Type}(P:Program)(t:TypeId)(c:Co α)(R:α->Prop):Prop:=
 ∀(H:Type) (enc:TypeId×Value->H) (w:World) (base:Nat) (spare:Nat->Bool) (held:Bool) (fuel:Nat) (cs:List Value) (x:DataW H×List MemPlace),
  DataW.trod enc P w base spare held fuel t cs=some x->w.noneFrozen x.2->∃y,c.rep w (Iv 0 w.heap.size) y cs∧R y
section
variable {P:Program} {t e:TypeId} {α β:Type} {c:Co α} {d:Co β} {R:α -> Prop} {R':β -> Prop}
theorem Rd.weaken(h:Rd P t c R){Q:α->Prop}(hq:∀x,R x->Q x):Rd P t c Q:=fun H enc w b sp hd f cs x hx hz=>by
 obtain⟨y,h1,h2⟩:=h H enc w b sp hd f cs x hx hz
 exact⟨y,h1,hq y h2⟩
theorem Rd.int{k:IntKind}(hu:P.underlying t=some (.int k)):Rd P t (AG k) (fun i=>k.min<=i∧i<=k.max):=fun H enc w b sp hd f cs x hx _=>by
 obtain⟨n,rfl,rfl,hw⟩:=DataW.trod_int hu hx
 simp only [Lit.wf,Bool.and_eq_true,decide_eq_true_eq]at hw
 exact⟨n,rfl,hw⟩
theorem Rd.bool(hu:P.underlying t=some .bool):Rd P t BK (fun _=>True):=fun H enc w b sp hd f cs x hx _=>by
 obtain⟨n,rfl,rfl⟩:=DataW.trod_bool hu hx
 exact⟨n,rfl,trivial⟩
theorem Rd.str(hu:P.underlying t=some .string):Rd P t Az (fun s=>s.size<=maxLen):=fun H enc w b sp hd f cs x hx _=>by
 obtain⟨s,rfl,rfl,h⟩:=DataW.trod_string hu hx
 exact⟨s,rfl,h⟩
theorem RL{p:Nat->α->Prop}:∀(n:Nat),(∀i,i<n->∃y,p i y)->∃ys:List α,ys.length=n∧∀i y,ys[i]? =some y->p i y
 |0,_=>⟨[],rfl,fun i y h=>by simp at h⟩
 |n+1,h=>by
  obtain⟨ys,hl,hy⟩:=RL n (fun i hi=>h i (by omega))
  obtain⟨y,hn⟩:=h n (by omega)
  refine⟨ys++[y],by simp [hl],fun i z hz=>?_⟩
  by_cases hi:i<n
  ·rw [List.getElem?_append_left (by omega)]at hz;exact hy i z hz
  ·rw [List.getElem?_append_right (by omega),hl]at hz
   by_cases h0:i-n=0
   ·rw [h0]at hz
    simp at hz
    obtain rfl:i=n:=by omega
    subst hz;exact hn
   ·have:=(List.getElem?_eq_some_iff.1 hz).1
    simp at this;omega
theorem Rd.slice(hu:P.underlying t=some (.slice e))(hc:P.cellsOf e=c.n)(hp:Nat.blt 0 c.n=true)(h:Rd P e c R):Rd P t (FQ c) (fun xs=>xs.length<=9223372036854775807∧∀x∈xs,R x):=fun H enc w b sp hd f cs x hx hz=>by
 have hp:0<c.n:=by have h:=hp;simp [Nat.blt]at h;omega
 rcases Go.Deep.open_slice hu hx with ⟨rfl,rfl⟩|⟨a,len,cap,m,n,D,Pl,rfl,hb,hl,hm,hmm,rfl,hel⟩
 ·exact⟨[],⟨_,rfl,AE.nil _ _ _⟩,by simp,by simp⟩
 have hle:len<=m:=by rw [hmm];split<;>omega
 obtain⟨ys,hyl,hy⟩:=RL (α:=α) (p:=fun i y=>∃cs',w.cells? b (a.add (i*P.cellsOf e)) (P.cellsOf e)=some cs'∧c.rep w (Iv 0 w.heap.size) y cs'∧R y) len (fun i hi=>by
  obtain⟨cs',h1,h2⟩:=hel i (by omega)
  obtain⟨y,h3,h4⟩:=h H enc w b sp hd n cs' _ h2 (fun b' o' hm=>hz b' o' (List.mem_append_right _ (List.mem_flatMap.2 ⟨i,List.mem_range.2 (by omega),hm⟩)))
  exact⟨y,cs',h1,h3,h4⟩)
 refine⟨ys,⟨_,rfl,some a,cap,by rw [hyl],⟨by omega,fun h=>by cases h⟩,by unfold maxLen at hm;omega,fun hpos=>?_⟩,by unfold maxLen at hm;omega,fun x hx=>?_⟩
 ·rw [hc]at hy
  have h0:∃cs',w.cells? b (a.add (0*c.n)) c.n=some cs':=by
   obtain⟨y,hy0⟩:∃y,ys[0]? =some y:=⟨_,List.getElem?_eq_getElem hpos⟩
   obtain⟨cs',h1,_⟩:=hy 0 y hy0
   exact⟨cs',h1⟩
  obtain⟨cs',h1⟩:=h0
  obtain⟨_,h2,h3⟩:=World.cells?_some h1
  have h4:=h3 0 hp
  have e0:(a.add (0*c.n)).add 0=a:=by simp [Addr.add]
  rw [e0,List.getElem?_eq_getElem (by omega)]at h4
  obtain⟨blk,off,spot⟩:=a
  have hblk:blk<w.heap.size∧spot=none:=by
   unfold World.cell? at h4
   split at h4
   ·rename_i h5
    refine⟨(Array.getElem?_eq_some_iff.1 h5).1,?_⟩
    cases spot with
    |none=>rfl
    |some s=>simp at h4
   ·cases h4
  obtain⟨hblk,rfl⟩:=hblk
  refine⟨blk,off,rfl,⟨Nat.zero_le _,hblk⟩,fun i x hx=>?_⟩
  obtain⟨cs',h1,h2,_⟩:=hy i x hx
  refine⟨cs',h2,fun j u hu=>?_⟩
  obtain⟨_,h3,h4⟩:=World.cells?_some h1
  have hj:=(List.getElem?_eq_some_iff.1 hu).1
  have:=h4 j (by omega)
  rw [Ch,Ch]at this
  refine⟨by rw [this,hu],hz _ _ (List.mem_append_left _ ?_)⟩
  unfold MemPlace.row
  refine List.mem_map.2 ⟨i*c.n+j,List.mem_range.2 ?_,by simp [Nat.add_assoc]⟩
  have hi2:i<m:=by have:=(List.getElem?_eq_some_iff.1 hx).1;omega
  have:(i+1)*c.n<=m*c.n:=Nat.mul_le_mul_right _ hi2
  rw [Nat.add_mul]at this
  rw [hc];omega
 ·obtain⟨i,hi⟩:=List.getElem?_of_mem hx
  obtain⟨_,_,_,h3⟩:=hy i x hi
  exact h3
def Zl{α:Type}(P:Program)(fs:List Field)(off:Nat)(c:Co α)(R:α->Prop):Prop:=
 ∀(H:Type) (enc:TypeId×Value->H) (w:World) (base:Nat) (spare:Nat->Bool) (held:Bool) (fuel:Nat) (cs:List Value),
  (∀f∈fs,∃x,DataW.trod enc P w base spare held fuel f.type ((cs.drop f.offset).take (P.cellsOf f.type))=some x∧w.noneFrozen x.2)->∃y,c.rep w (Iv 0 w.heap.size) y ((cs.drop off).take c.n)∧R y
theorem Zl.one{f:Field}{off:Nat}(h:Rd P f.type c R)(ho:f.offset=off)(hc:P.cellsOf f.type=c.n):Zl P [f] off c R:=fun H enc w b sp hd fu cs hx=>by
 obtain⟨x,hx,hz⟩:=hx f (List.mem_singleton.2 rfl)
 obtain⟨y,h1,h2⟩:=h H enc w b sp hd fu _ x hx hz
 rw [ho,hc]at h1
 exact⟨y,h1,h2⟩
theorem Zl.cons{f:Field}{fs:List Field}{off:Nat}(h:Rd P f.type c R)(ho:f.offset=off)(hc:P.cellsOf f.type=c.n)(h2:Zl P fs (off+c.n) d R'):Zl P (f::fs) off (Bc c d) (fun x=>R x.1∧R' x.2):=fun H enc w b sp hd fu cs hx=>by
 obtain⟨x,hx1,hz1⟩:=hx f (List.mem_cons_self ..)
 obtain⟨y,h3,h4⟩:=h H enc w b sp hd fu _ x hx1 hz1
 obtain⟨z,h5,h6⟩:=h2 H enc w b sp hd fu cs (fun g hg=>hx g (List.mem_cons_of_mem _ hg))
 rw [ho,hc]at h3
 refine⟨(y,z),⟨_,_,?_,h3,h5⟩,h4,h6⟩
 show(cs.drop off).take (c.n+d.n)=_
 rw [List.take_add,List.drop_drop]
theorem Rd.map(h:Rd P t c R)(f:β->α)(g:α->β)(hfg:∀y,f (g y)=y):Rd P t (Dl f c) (fun x=>R (f x)):=fun H enc w b sp hd fu cs x hx hz=>by
 obtain⟨y,h1,h2⟩:=h H enc w b sp hd fu cs x hx hz
 exact⟨g y,by show c.rep w _ (f (g y)) cs;rw [hfg];exact h1,by show R (f (g y));rw [hfg];exact h2⟩
theorem Rd.struct{fs:List Field}(hu:P.underlying t=some (.struct fs.toArray))(hn:P.cellsOf t=c.n)(h:Zl P fs 0 c R):Rd P t c R:=fun H enc w b sp hd fu cs x hx hz=>by
 obtain⟨xs,n,rfl,rfl,hl,hlen,hf⟩:=DataW.trod_struct hu hx
 obtain⟨y,h1,h2⟩:=h H enc w b sp hd n cs (fun f hf'=>by
  obtain⟨i,hi⟩:=List.getElem?_of_mem hf'
  have:=hf i f (by simpa using hi)
  rw [this]
  have hi':=(List.getElem?_eq_some_iff.1 hi).1
  have hix:i<xs.length:=by rw [hlen];simpa using hi'
  exact⟨_,List.getElem?_eq_getElem hix,fun b' o' hm=>hz b' o' (List.mem_flatMap.2 ⟨_,List.getElem_mem hix,hm⟩)⟩)
 rw [List.drop_zero,List.take_of_length_le (by omega)]at h1
 exact⟨y,h1,h2⟩
end
/-! ## A statement whose answer is true -/
section
variable {H:Type} {enc:TypeId × Value -> H} {P:Program}
theorem Kf(hl:laidOutB P=true){W W':World}(hb:Below W.heap.size W W'):∀{ts:List TypeId} {vs:List Value} {ds:List (DataW H)} {ps:List MemPlace},(∀t∈ts,P.readableRec t=true∧t<P.types.size)->
 DataW.TrodAll enc P W 0 (fun _=>true) true ts vs ds ps->(∀x∈ps,x.block<W.heap.size)->DataW.TrodAll enc P W' 0 (fun b=>decide (b<W.heap.size)) true ts vs ds ps
 |[],[],[],ps,_,h,_=>h
 |t::ts,v::vs,d::ds,ps,hr,h,hlt=>by
  obtain⟨p,q,h1,h2,rfl⟩:=h
  obtain⟨h3,h4⟩:=hr t (List.mem_cons_self ..)
  exact⟨p,q,Below.trod hl h3 h4 h1 hb (fun x hx=>hlt x (List.mem_append_left _ hx)),Kf hl hb (fun t ht=>hr t (List.mem_cons_of_mem _ ht)) h2 (fun x hx=>hlt x (List.mem_append_right _ hx)),rfl⟩
theorem MJ{w:World}{base:Nat}{sp:Nat->Bool}{hd:Bool}:∀{ts:List TypeId} {vs:List Value} {ds:List (DataW H)} {ps:List MemPlace},DataW.TrodAll enc P w base sp hd ts vs ds ps->ds.length=ts.length
 |[],[],[],_,_=>rfl
 |t::ts,v::vs,d::ds,ps,⟨p,q,_,h,_⟩=>by simp [MJ h]
end
end Go.Eng
namespace Go.Eng
open Go Go.RowKit
/-! ## Plain laws on what the walks compute -/
theorem Aw{x:Int}(h1:-9223372036854775808<=x)(h2:x<=9223372036854775807):IntKind.wrap IntKind.i64 x=x:=by
 simp [IntKind.wrap,IntKind.bits,IntKind.signed]
 split<;>omega
theorem Hy{α:Type}(xs:List α)(i:Nat):AL xs (i:Int)=xs[i]?:=by simp [AL]
theorem Ea{α:Type}{xs:List α}{i:Int}(h0:0<=i)(h1:i<xs.length):∃x,AL xs i=some x∧x∈xs:=by
 obtain⟨n,rfl⟩:=Int.eq_ofNat_of_zero_le h0
 have hn:n<xs.length:=by omega
 exact⟨xs[n],by rw [Hy,List.getElem?_eq_getElem hn],List.getElem_mem hn⟩
theorem FJ{n b:Nat}(h:n<=1048576)(hb:b<=268435456):MK (n:Int) b=some n:=by
 unfold MK
 have h2:n*b<=1048576*268435456:=Nat.mul_le_mul h hb
 have h3:(n:Int)*(b:Int)<=281474976710656:=by
  have:((n*b:Nat):Int)<=281474976710656:=by omega
  simpa using this
 rw [if_pos ⟨by omega,h3,by omega⟩]
 simp
end Go.Eng
namespace Go.Eng
open Go Go.RowKit
/-! ## Calls that write what they are handed -/
def pB(b:Nat):Nat->Prop:=fun k=>k=b
def pO(v:Value):Nat->Prop:=fun k=>v.ownBlock=some k
def Hi(p q:Nat->Prop):Nat->Prop:=fun k=>p k∨q k
theorem AK{b:Nat}{Q:Nat->Prop}(h:Q b:=by omega):∀k,pB b k->Q k:=fun k e=>by have e:k=b:=e;rw [e];exact h
theorem HZ{v:Value}{Q:Nat->Prop}(h:∀g,v.ownBlock=some g->Q g):∀k,pO v k->Q k:=h
theorem Bz{p q:Nat->Prop}{Q:Nat->Prop}(h1:∀k,p k->Q k)(h2:∀k,q k->Q k):∀k,Hi p q k->Q k:=fun k h=>h.elim (h1 k) (h2 k)
structure Af(p:Nat->Prop)(w w':World):Prop where
 os:w'.os=w.os
 tape:w'.tape=w.tape
 output:w'.output=w.output
 size:w.heap.size<=w'.heap.size
 block:∀k,k<w.heap.size->¬p k->w'.heap[k]? =w.heap[k]?
section
variable {p q:Nat -> Prop} {w a c:World}
theorem Af.refl(p:Nat->Prop)(w:World):Af p w w:=⟨rfl,rfl,rfl,Nat.le_refl _,fun _ _ _=>rfl⟩
theorem Af.ext(h:Af p w a)(he:AS a c):Af p w c:=
 ⟨he.os.trans h.os,he.tape.trans h.tape,he.output.trans h.output,Nat.le_trans h.size he.size,fun k hk hp=>(he.block k (Nat.lt_of_lt_of_le hk h.size)).trans (h.block k hk hp)⟩
theorem Af.upd{b:Nat}(h:Af p w a)(hu:GU b a c)(hb:p b∨w.heap.size<=b):Af p w c:=
 ⟨hu.os.trans h.os,hu.tape.trans h.tape,hu.output.trans h.output,by rw [hu.size];exact h.size,fun k hk hp=>(hu.block k (fun e=>by subst e;exact hb.elim hp (fun h=>by omega))).trans (h.block k hk hp)⟩
theorem Af.grow{v v':Value}(h:Af p w a)(hg:AO a c v v')(hb:∀g,v.ownBlock=some g->p g∨w.heap.size<=g):Af p w c:=
 ⟨hg.1.os.trans h.os,hg.1.tape.trans h.tape,hg.1.output.trans h.output,Nat.le_trans h.size hg.1.size,fun k hk hp=>(hg.1.block k (Nat.lt_of_lt_of_le hk h.size) (fun e=>(hb k e.symm).elim hp (fun h=>by omega))).trans (h.block k hk hp)⟩
theorem Af.but(h:Af p w a)(hq:Af q a c)(hb:∀k,q k->p k∨w.heap.size<=k):Af p w c:=
 ⟨hq.os.trans h.os,hq.tape.trans h.tape,hq.output.trans h.output,Nat.le_trans h.size hq.size,fun k hk hp=>(hq.block k (Nat.lt_of_lt_of_le hk h.size) (fun e=>(hb k e).elim hp (fun h=>by omega))).trans (h.block k hk hp)⟩
theorem Af.below{lo:Nat}(h:Af p w a)(hp:∀k,p k->lo<=k)(hl:lo<=w.heap.size):Below lo w a:=
 ⟨h.os,h.tape,h.output,h.size,fun k hk=>h.block k (by omega) (fun e=>by have:=hp k e;omega)⟩
theorem Ak.but{b:Nat}{us:List Value}{t:TypeId}(hb:Ak w b us t)(h:Af p w a)(hne:∀k,p k->k≠b):Ak a b us t:=by
 have h1:=h.block b hb.lt (fun e=>hne b e rfl)
 unfold Ak at hb ⊢;rw [h1,hb]
theorem AE.but{α:Type}{d:Co α}{lo hi:Nat}{xs:List α}{v:Value}(hs:AE d w (Iv lo hi) xs v)(h:Af p w a)(hne:∀k,p k->k<lo∨hi<=k)(hle:hi<=w.heap.size):AE d a (Iv lo hi) xs v:=
 hs.mono (fun _ h=>h) (fun k hk=>h.block k (by have:=hk.2;omega) (fun e=>by have:=hne k e;have:=hk.1;have:=hk.2;omega))
theorem AC.butF{α:Type}{d:Co α}[Cx d]{B:Nat}{e:TypeId}{xs:List α}{v:Value}(ho:AC d w B (Iv 0 0) e xs v)(h:Af p w a)(hne:∀k,p k->∀g,v.ownBlock=some g->k≠g):AC d a B (Iv 0 0) e xs v:=
 ho.keep (fun g hg=>h.block g (ho.blk g hg).2 (fun e=>hne g e g hg rfl)) (fun _ h=>h) (fun k h=>absurd h.2 (Nat.not_lt_zero k))
theorem AC.butN{α:Type}{d:Co α}{B hi:Nat}{e:TypeId}{xs:List α}{v:Value}(ho:AC d w B (SX B hi v) e xs v)(h:Af p w a)(hne:∀k,p k->∀g,v.ownBlock=some g->k≠g)(hle:hi<=w.heap.size)(hs:∀k,p k->k<B∨hi<=k):AC d a B (SX B hi v) e xs v:=
 ho.keep (fun g hg=>h.block g (ho.blk g hg).2 (fun e=>hne g e g hg rfl)) (fun _ h=>h) (fun k hk=>h.block k (by have:=hk.2.1;omega) (fun e=>by have:=hs k e;have:=hk.1;have:=hk.2.1;omega))
end
section
variable {P:Program} {N:Nat} {o:Oper} {K:KL} {w:World}
theorem BI{i:Nat}{v:Value}{us:List Value}{ps:List (Nat×Value)}{uss:List (Nat×List Value)}(h:v.cells.toList=us)(t:ps.map (fun p=>(p.1,p.2.cells.toList))=uss):((i,v)::ps).map (fun p=>(p.1,p.2.cells.toList))=(i,us)::uss:=by
 rw [List.map_cons,t,h]
theorem AE.cl{α:Type}{c:Co α}{w:World}{S:Nat->Prop}{xs:List α}{v:Value}(h:AE c w S xs v):v.cells.toList=[v]:=by rw [AE.cells h]
/-! ## Functions as values, shifts, bits -/
theorem FL{f first captured cs}(ho:o.op= .makeFunc (.func f) first captured)(h1:Mp K first.toList=some [])(h2:Mp K captured.toList=some cs):EH P N K o w (.func (.func f) #[] cs.toArray):=by
 intro a hK w' _
 have e1:first.map a.eval= #[]:=by
  have:=hK.evs h1
  apply Array.ext'
  simpa using this
 have e2:captured.map a.eval=cs.toArray:=by
  have:=hK.evs h2
  apply Array.ext'
  simpa using this
 simp [execOp,ho,Instr.makeFunc,e1,e2]
theorem FZ{x f args tys vs cs}{R:Value->World->Prop}(ho:o.op= .call { callee:=.value x,args:=args,argTypes:=tys })(hf:BC P f=true)(hx:CK K x=some (.func (.func f) #[] cs))
 (ha:Mp K args.toList=some vs) (hc:Calls P f (vs++cs.toList).toArray w (Dy R)):JY P N K o w R:=by
 intro a hK Kt Q hk
 have he:args.map a.eval=vs.toArray:=by
  have:=hK.evs ha
  apply Array.ext'
  simpa using this
 have hr:(execOp a.eval o).run P w= .ok (.enter f (vs++cs.toList).toArray) w:=by
  have e:vs.toArray++cs=(vs++cs.toList).toArray:=by simp
  simp [execOp,ho,resolve,hK.ev hx,Deferred.ofValue,invoke,he,e,NH hf]
 unfold Oper.wp
 rw [hr]
 exact hc.mono fun e w' ⟨v,he,hR⟩=>by subst he;exact hk _ _ hR
def Hh(k:IntKind)(m n:Int):Int:=k.wrap (m*2^(min n.toNat k.bits))
def UI(k:IntKind)(m n:Int):Int:=k.wrap (BitVec.ofInt k.bits m&&&BitVec.ofInt k.bits n).toNat
theorem Ol{t x y u k k2 m n}(ho:o.op= .binOp .shl t x y u)(hx:CK K x=some (.int k m))(hy:CK K y=some (.int k2 n))(h0:¬n<0):EH P N K o w (.int k (Hh k m n)):=by
 intro a hK w' _
 simp [execOp,ho,hK.ev hx,hK.ev hy,eqGuard,binOp,Op.shift,h0,Hh]
theorem VR{t x y u k m n}(ho:o.op= .binOp .and t x y u)(hx:CK K x=some (.int k m))(hy:CK K y=some (.int k n)):EH P N K o w (.int k (UI k m n)):=by
 intro a hK w' _
 simp [execOp,ho,hK.ev hx,hK.ev hy,eqGuard,binOp,Op.intBits,UI]
theorem YL{b:Int}{α:Type}{y:Option α}{r:α}(h:(bif decide (b<0)then none else y)=some r):¬b<0∧y=some r:=by
 by_cases hb:b<0
 ·simp [hb]at h
 ·exact⟨hb,by simpa [hb] using h⟩
end
end Go.Eng
namespace Go.Eng
open Go Go.RowKit
section
variable {P:Program} {N:Nat} {o:Oper} {K:KL} {w:World}
theorem PJ{t x y u e}(ho:o.op= .binOp .eql t x y u)(hu:P.underlying t=some (.slice e))(hx:CK K x=some (.slice none 0 0))(hy:CK K y=some (.slice none 0 0)):EH P N K o w (.bool true):=by
 intro a hK w' _
 simp [execOp,ho,hK.ev hx,hK.ev hy,eqGuard,binOp,run_equal_slice_nil,hu]
theorem Ow{t x y u e p n cap}(ho:o.op= .binOp .eql t x y u)(hu:P.underlying t=some (.slice e))(hx:CK K x=some (.slice (some p) n cap))(hy:CK K y=some (.slice none 0 0)):EH P N K o w (.bool false):=by
 intro a hK w' _
 simp [execOp,ho,hK.ev hx,hK.ev hy,eqGuard,binOp,run_equal_slice_nil,hu]
theorem AE.nil_or{α:Type}{c:Co α}{S:Nat->Prop}{xs:List α}{v:Value}(h:AE c w S xs v):(v= .slice none 0 0∧xs=[])∨∃p n cap,v= .slice (some p) n cap:=by
 obtain⟨a,cap,rfl,⟨h2,h3⟩,_,_⟩:=h
 cases a with
 |none=>
  have:=h3 rfl
  have hx:xs=[]:=List.eq_nil_of_length_eq_zero (by omega)
  subst hx;subst this;exact .inl ⟨rfl,rfl⟩
 |some p=>exact .inr ⟨p,_,cap,rfl⟩
variable {Q:Exit -> Act -> World -> Prop}
theorem WC.cond_t{c:Operand}{x y:Code}(hc:CK K c=some (.bool true))(ht:WC P N x Q K w):WC P N (.cond c x y) Q K w:=WC.cond hc (fun _=>ht) (fun h=>absurd h (by decide))
theorem WC.cond_f{c:Operand}{x y:Code}(hc:CK K c=some (.bool false))(hf:WC P N y Q K w):WC P N (.cond c x y) Q K w:=WC.cond hc (fun h=>absurd h (by decide)) (fun _=>hf)
/-! ## A drawn region that writes what was there: the blocks of p -/
def YA(P:Program)(N:Nat)(K:KL)(o:Oper)(Ψ:Value->Prop):Prop:=∃v,(∀w,EH P N K o w v)∧Ψ v
theorem Ml{α:Type}{c:Co α}{xs:List α}{y:α}{t x i e v k m S}(ho:o.op= .indexAddr t x i)(hu:P.underlying t=some (.slice e))(hc:BX P e=some c.n)(hx:CK K x=some v)
 (hi2:CK K i=some (.int k m)) (hs:AE c w S xs v) (hg:AL xs m=some y):
 YA P N K o (fun u=>∃b off us,u= .pointer (some ⟨b,off,none⟩)∧S b∧c.rep w S y us∧AP w b off us):=by
 obtain⟨a,cap,rfl,h2,h3,h4⟩:=hs
 obtain⟨g0,g1,g2⟩:=EZ hg
 obtain⟨b,off,rfl,h5,h7⟩:=h4 (by omega)
 obtain⟨us,h8,h9⟩:=h7 _ _ g2
 exact⟨_,fun w=>El ho hu hc hx hi2 g0 g1,b,_,us,rfl,h5,h8,h9⟩
theorem BJ{α:Type}{c:Co α}{xs:List α}{v:Value}{B:Nat}{S:Nat->Prop}{e:TypeId}{y:α}{t x i k m}(ho:o.op= .indexAddr t x i)(hu:P.underlying t=some (.slice e))(hc:BX P e=some c.n)(hx:CK K x=some v)
 (hi2:CK K i=some (.int k m)) (hs:AC c w B S e xs v) (hg:AL xs m=some y):
 YA P N K o (fun u=>∃g us,u= .pointer (some ⟨g,0+m.toNat*c.n,none⟩)∧v.ownBlock=some g∧c.rep w S y us∧AP w g (0+m.toNat*c.n) us):=by
 obtain⟨u,h1,g,us,rfl,h2,h3,h4⟩:=LY (N:=N) ho hu hc hx hi2 hs hg
 obtain⟨g0,g1,g2⟩:=EZ hg
 obtain⟨cs,⟨hl,⟨rfl,_⟩|⟨g',cap,cur,rfl,_⟩⟩,_⟩:=hs
 ·cases h2
 ·have h2:g'=g:=Option.some.inj h2
  subst h2
  exact⟨_,fun w=>by have:=El (N:=N) (w:=w) ho hu hc hx hi2 g0 g1;simpa [Ch] using this,g',us,rfl,rfl,h3,h4⟩
end
section
variable {P:Program} {N:Nat} {ops:Array Oper} {Q:Exit -> Act -> World -> Prop} {n:Nat} {K:KL} {w w0:World} {f:Nat} {listed:Array Bool} {p:Nat -> Prop}
def EK(P:Program)(N:Nat)(ops:Array Oper)(n:Nat)(Q:Exit->Act->World->Prop)(p:Nat->Prop)(w0:World)(f:Nat)(listed:Array Bool)(K:KL)(w:World):Prop:=
 HeadInv .any ops n listed->Af p w0 w->∀a,Kn N K a->Ct P .any ops n Q (fun w'=>Af p w0 w') f listed a w
theorem EK.yld{o:Oper}{v:Value}(i:Nat)(hh:ED ops n=true)(hi:ops[i]? =some o)(hc:(Nat.blt i n&&Region.free .any ops listed i&&(Region.ready .any ops listed).contains i)=true)(hg:o.guard=none)(hd:DD N o.dst=true)
 (h:∀wx,Af p w0 wx->EH P N K o wx v) (k:EK P N ops n (noPan Q) p w0 f (listed.setIfInBounds i true) (Do K o.dst v) w):EK P N ops n (noPan Q) p w0 (f+1) listed K w:=by
 intro inv hx a hK
 obtain⟨hs,hn,ht⟩:=ED.spec hh
 simp only [Bool.and_eq_true]at hc
 have hin:i<n:=by have h2:=hc.1.1;simp [Nat.blt]at h2;omega
 have hr:i∈Region.ready .any ops listed:=by simpa using hc.2
 refine Ct.first hi hin hn (Region.noSelect_spec hs) ht (fun c a w h=>h.elim) f listed a w inv (Region.free_spec hi hc.1.2) hr ?_ hx (k (inv.set hr hin) hx _ (hK.put (DD.h hd)))
 exact .inl ⟨by simp [Region.wanted,hg],fun w' hw'=>h w' hw' a hK w' (AS.refl w')⟩
theorem EK.ya{o:Oper}{Ψ:Value->Prop}(i:Nat)(hh:ED ops n=true)(hi:ops[i]? =some o)(hc:(Nat.blt i n&&Region.free .any ops listed i&&(Region.ready .any ops listed).contains i)=true)(hg:o.guard=none)(hd:DD N o.dst=true)
 (h:YA P N K o Ψ) (k:∀v,Ψ v->EK P N ops n (noPan Q) p w0 f (listed.setIfInBounds i true) (Do K o.dst v) w):EK P N ops n (noPan Q) p w0 (f+1) listed K w:=by
 obtain⟨v,h1,h2⟩:=h;exact EK.yld i hh hi hc hg hd (fun wx _=>h1 wx) (k v h2)
theorem EK.eff{o:Oper}{R:Value->World->Prop}(i:Nat)(hi:ops[i]? =some o)(hin:Nat.blt i n=true)(hr:Region.ready .any ops listed=[i])(hg:o.guard=none)(hd:DD N o.dst=true)
 (h:JY P N K o w R) (k:∀v w',R v w'->Af p w0 w'∧EK P N ops n (noPan Q) p w0 f (listed.setIfInBounds i true) (Do K o.dst v) w'):EK P N ops n (noPan Q) p w0 (f+1) listed K w:=by
 intro inv hx a hK
 have hin':i<n:=by have h2:=hin;simp [Nat.blt]at h2;omega
 have hri:i∈Region.ready .any ops listed:=by rw [hr];simp
 refine⟨fun h0=>(by rw [h0]at hr;cases hr),fun j hj=>?_⟩
 rw [hr]at hj
 have hji:j=i:=by simpa using hj
 subst hji
 unfold wpOp
 simp only [hi]
 rw [if_pos (by simp [Region.wanted,hg])]
 refine .inl (h a hK _ _ fun u w' hR=>?_)
 obtain⟨h1,h2⟩:=k u w' hR
 exact⟨fun _=>h1,h2 (inv.set hri hin') h1 _ (hK.put (DD.h hd))⟩
theorem EK.tail{l:List Oper}(hops:ops=l.toArray)(hseq:Region.seqB .any ops (l.drop n).length n listed=true)(hf:f=(l.drop n).length)(k:TL P N ops (noPan Q) (l.drop n) K w):EK P N ops n (noPan Q) p w0 f listed K w:=by
 intro inv hx a hK
 rw [hf]
 exact Ct.seq (l.drop n) n listed a w (fun j=>by rw [hops,List.getElem?_drop];simp) (Nat.le_refl n) hseq (k a hK)
theorem EK.done(hr:Region.ready .any ops listed=[])(h:NX N Q .normal K w):EK P N ops n (noPan Q) p w0 f listed K w:=by
 intro inv hx a hK
 cases f with
 |zero=>exact⟨hr,h a hK⟩
 |succ f=>exact⟨fun _=>h a hK,by rw [hr];simp⟩
theorem WC.heldG{id:Nat}{l:List Oper}(n:Nat)(hm:P.follows .mixedOrders=true)
 (h:∀w',AS w w'->EK P N l.toArray n (noPan Q) p w' l.length (Array.replicate l.length false) K w'):WC P N (.region id l.toArray true) Q K w:=by
 intro a hK
 have inv0:HeadInv .any l.toArray n (Array.replicate l.length false):=
  ⟨by simp,fun j oj _ hl=>(by rw [getD_replicate_false]at hl;cases hl),fun t _ ht=>getD_in (by simpa using ht) (getD_replicate_false _ _)⟩
 refine Code.wp_mono ?_ (wp_region_any hm (Ct.any _ _ _ _ (h w.drew (AS.drew w) (by simpa using inv0) (Af.refl p _) a hK)))
 intro e a w hq
 cases e<;>first|exact hq|exact hq.elim
theorem AP.but{b off:Nat}{us:List Value}(h:AP w b off us)(hb:Af p w w0)(hne:∀k,p k->k≠b)(hlt:b<w.heap.size):AP w0 b off us:=h.block (hb.block b hlt (fun e=>hne b e rfl))
end
/-! ## What is left out within what is left out -/
section
variable {P:Program} {N:Nat} {ops:Array Oper} {Q:Exit -> Act -> World -> Prop} {K:KL} {w:World} {o:Oper} {rest:List Oper} {Qa:Act -> Prop}
end
end Go.Eng
namespace Go.Eng
open Go Go.RowKit
/-! ## Plain laws on the statements' marks -/
theorem mY{i:Nat}(h:i<4611686018427387904):IntKind.wrap IntKind.i64 ((i:Int)+1)=((i+1:Nat):Int):=by rw [Aw (by omega) (by omega)];simp
end Go.Eng
namespace Go.Eng
open Go Go.RowKit
/-! ## Arrays in a box, texts put together, bytes as a text -/
section
variable {P:Program} {N:Nat} {K:KL} {o:Oper} {w:World}
theorem Le{t x i e b off k m sz len}(ho:o.op= .indexAddr t x i)(hu:P.underlying t=some (.array len e))(hc:BX P e=some sz)(hx:CK K x=some (.pointer (some ⟨b,off,none⟩)))
 (hi:CK K i=some (.int k m)) (h0:0<=m∧m<(len:Int)):EH P N K o w (.pointer (some ⟨b,off+m.toNat*sz,none⟩)):=by
 intro a hK w' _
 obtain⟨i,hi2,hs⟩:=Option.map_eq_some_iff.1 hc
 simp [execOp,ho,hK.ev hx,hK.ev hi,Instr.indexAt,Instr.sureAddr,asIntOf,run_underlying hu,h0.1,h0.2,sizeOf,typeInfo,hi2,hs,Ch]
def Lo(x y:ByteArray):Option ByteArray:=if ((x.size+y.size:Nat):Int)>IntKind.i64.max then none else some (x++y)
theorem LX{t x y u m n r}(ho:o.op= .binOp .add t x y u)(hx:CK K x=some (.string m))(hy:CK K y=some (.string n))(hr:Lo m n=some r):EH P N K o w (.string r):=by
 intro a hK w' _
 unfold Lo at hr
 split at hr
 ·cases hr
 ·rename_i hn
  obtain rfl:=Option.some.inj hr
  have e:(binOp .add t (.string m) (.string n)).run P w'= .ok (.string (m++n)) w':=by
   show(Op.stringOp .add m n).run P w'=_
   unfold Op.stringOp
   rw [if_neg hn];rfl
  simp [execOp,ho,hK.ev hx,hK.ev hy,eqGuard,Sem.run_bind,e]
def Pf(xs:List Int):ByteArray:=xs.foldl (fun r n=>r.push (UInt8.ofNat n.toNat)) ByteArray.empty
theorem Lw{s t x e v xs S}(ho:o.op= .convert s t x)(hs:P.underlying s=some (.slice e))(he:P.underlying e=some (.int .u8))(ht:P.underlying t=some .string)(hx:CK K x=some v)(hr:AE (AG .u8) w S xs v):
 EH P N K o w (.string (Pf xs)):=by
 intro a hK w' hw
 obtain⟨ad,cap,rfl,⟨h2,h3⟩,h4,h5⟩:=hr
 have e1:=run_convert_bytes_string (P:=P) w' s t e ad xs.length cap hs he ht
 have e2:(Conv.bytesToString (.slice ad xs.length cap)).run P w'= .ok (.string (Pf xs)) w':=by
  cases ad with
  |none=>
   have:xs=[]:=by
    cases xs with
    |nil=>rfl
    |cons y ys=>obtain⟨b,off,q,_⟩:=h5 (by simp);cases q
   subst this;rfl
  |some ad=>
   refine run_bytesToString w' ad xs.length cap xs ?_
   by_cases hl:0<xs.length
   ·obtain⟨b,off,q,_,h6⟩:=h5 hl
    obtain rfl:=Option.some.inj q
    have:=run_loadCells_list (P:=P) w' ⟨b,off,none⟩ (xs.map (Value.int .u8)) (fun j v hj=>by
     rw [List.getElem?_map]at hj
     cases hx2:xs[j]? with
     |none=>rw [hx2]at hj;cases hj
     |some y=>
      rw [hx2]at hj
      obtain rfl:=Option.some.inj hj
      obtain⟨us,h7,h8⟩:=h6 j y hx2
      obtain rfl:us=[.int .u8 y]:=h7
      have h9:=h8.ext hw 0 _ rfl
      rw [Ch]
      simpa [AG] using h9.1)
    simpa using this
   ·have:xs=[]:=by
     cases xs with
     |nil=>rfl
     |cons y ys=>simp at hl
    subst this;rfl
 simp [execOp,ho,hK.ev hx,e1,e2]
end
/-! ## Plain laws on sizes and marks -/
theorem Ma{x y:ByteArray}(h:x.size+y.size<=4611686018427387904):Lo x y=some (x++y):=by
 unfold Lo
 rw [if_neg (by show¬_>(9223372036854775807:Int);omega)]
theorem Lp(xs:List Int):(Pf xs).size=xs.length:=by
 have:∀(xs:List Int) (b:ByteArray),(xs.foldl (fun r n=>r.push (UInt8.ofNat n.toNat)) b).size=b.size+xs.length:=by
  intro xs;induction xs with
  |nil=>intro b;rfl
  |cons x xs ih=>intro b;rw [List.foldl_cons,ih,ByteArray.size_push,List.length_cons];omega
 have:=this xs ByteArray.empty
 simpa [Pf] using this
end Go.Eng
namespace Go.Eng
open Go Go.RowKit Go.ChangeShapes Go.WideShapes Go.ChangeAt
/-! ## A statement whose answer is true, where package-level variables are laid -/
theorem Yn{C:Checked}{os:Os}{f:FuncId}{fn:Func}{s:ChangeSpec}{conds:List PathCond}{H:Type}{enc:TypeId×Value->H}{tb:TypeId}{laid:List (String×DataW Unit)}
 (own:ownKnob C.prog.godebug=none) (started:os.Started) (noInit:C.prog.inits.idxOf? f=none) (hfn:C.prog.funcs[f]? =some fn)
 (witness:∃(w:World) (tape:Tape) (i:Input),w.os=os∧(w.forCall tape i).Shaped C.prog∧i.vars=[]∧Input.okWide C.prog (w.forCall tape i) .any w.heap.size f i∧
  ((s.pre enc C.prog fn conds false (w.forCall tape i).memory i.args∧laidMetH C.prog laid (w.forCall tape i).memory)∧sizedMet enc C.prog fn (OpenSpec.ofChange s) false (w.forCall tape i).memory i.args)∧({}:Assume).holds C.prog (lone (Frame.enter C.prog f i.args .normal) [] (w.forCall tape i)))
 (hl:laidOutB C.prog=true) (hvars:s.vars=[]) (hspec:∀ds:List (DataW H),ds.length=fn.params.toList.length->s.fn H ds={ results:=[.lit (.bool true)],args:=ds })
 (hrt:fn.resultTypes= #[tb]) (hub:C.prog.underlying tb=some .bool) (hpar:∀t∈fn.params.toList,C.prog.readableRec t=true∧t<C.prog.types.size)
 (run:∀(W:World) (base:Nat) (args:Array Value) (ds:List (DataW H)) (p:List MemPlace),
  (∀(j:Nat) t v,fn.params[j]? =some t->args[j]? =some v->Value.okWide C.prog W .any base t v)->
  DataW.TrodAll enc C.prog W 0 (fun _=>true) true fn.params.toList args.toList ds p->W.noneFrozen p->
  Calls C.prog f args W (Dy fun u w2=>u= .bool true∧AS W w2)):
 ReturnsInHanded {} C os f .any (fun w args=>(s.pre enc C.prog fn conds false w args∧laidMetH C.prog laid w)∧sizedMet enc C.prog fn (OpenSpec.ofChange s) false w args) (s.post enc C.prog fn false true false false):=by
 refine returnsInHanded_of_change_and (X:=fun w _=>laidMetH C.prog laid w) (fun _ _ _ hh h=>h.of_heap hh) own started noInit hfn witness ?_
 intro W base args ds gs before hval hW _ _ _ _
 have hW':=hW
 obtain⟨p,q,hA,hV,rfl,hz,_⟩:=hW
 rw [hvars]at hV
 obtain⟨rfl,rfl⟩:=trodVars_none hV
 refine(run W base args ds p hval hA (fun b' o' hm=>hz b' o' (List.mem_append_left _ hm))).mono fun e W' ⟨v,he,hv,hB⟩=>?_
 subst hv
 have e1:s.fn H (ds++[])={ results:=[.lit (.bool true)],args:=ds }:=by rw [List.append_nil];exact hspec ds (MJ hA)
 refine⟨_,he,ds,[],p++[],[],p,[],hW',?_,?_,?_,hB.frame _,fun h=>by cases h⟩
 ·rw [e1,hrt]
  exact⟨[],[],⟨1,by simp [DataW.trod,Value.cells,hub]⟩,rfl,rfl⟩
 ·rw [e1]
  exact Kf hl hB hpar hA (fun x hx=>hW'.lt x (List.mem_append_left _ hx))
 ·rw [e1,hvars];rfl
section
variable {H:Type} {enc:TypeId × Value -> H} {P:Program} {w:World} {base:Nat} {spare:Nat -> Bool} {held:Bool}
theorem Zi{vs:List Value}{ds:List (DataW H)}{ps:List MemPlace}(h:DataW.TrodAll enc P w base spare held [] vs ds ps):vs=[]∧ds=[]:=by
 match vs,ds,h with
 |[],[],_=>exact⟨rfl,rfl⟩
theorem Xb{t:TypeId}{ts:List TypeId}{vs:List Value}{ds:List (DataW H)}{ps:List MemPlace}(h:DataW.TrodAll enc P w base spare held (t::ts) vs ds ps)(hz:w.noneFrozen ps):
 ∃v vs' d ds' p q,vs=v::vs'∧ds=d::ds'∧DataW.Trod enc P w base spare held t v d p∧w.noneFrozen p∧DataW.TrodAll enc P w base spare held ts vs' ds' q∧w.noneFrozen q:=by
 match vs,ds,h with
 |v::vs',d::ds',⟨p,q,h1,h2,e⟩=>subst e;exact⟨v,vs',d,ds',p,q,rfl,rfl,h1,fun b o hm=>hz b o (List.mem_append_left _ hm),h2,fun b o hm=>hz b o (List.mem_append_right _ hm)⟩
theorem eJ{a:Array Value}{l:List Value}(h:a.toList=l):a=l.toArray:=by rw [←h]
end
section
variable {P:Program} {N:Nat} {K:KL} {o:Oper} {w w0:World}
theorem IQ{α:Type}{c:Co α}{B:Nat}{S:Nat->Prop}{e:TypeId}{xs:List α}{v:Value}{t x}(ho:o.op= .call { callee:=.builtin .len,args:=#[x],argTypes:=#[t] })(hu:P.underlying t=some (.slice e))(hx:CK K x=some v)(hs:AC c w0 B S e xs v):
 EH P N K o w (.int .i64 xs.length):=by
 obtain⟨cs,⟨_,⟨rfl,hn⟩|⟨g,cap,cur,rfl,_⟩⟩,_⟩:=hs
 ·have:=KH (N:=N) (w:=w) ho hu hx;rw [hn];exact this
 ·exact KH ho hu hx
theorem Wh{α:Type}{c:Co α}{e:TypeId}{xs:List α}{v:Value}{S:Nat->Prop}{t x}(ho:o.op= .call { callee:=.builtin .len,args:=#[x],argTypes:=#[t] })(hu:P.underlying t=some (.slice e))(hx:CK K x=some v)(hs:AE c w0 S xs v):
 EH P N K o w (.int .i64 xs.length):=by
 obtain⟨a,cap,rfl,h2,h3,h4⟩:=hs
 exact KH ho hu hx
end
end Go.Eng
namespace Go.Eng
open Go Go.RowKit
/-! ## Orders of a drawn region that writes -/
section
variable {P:Program} {N:Nat} {ops:Array Oper} {Q:Exit -> Act -> World -> Prop} {n:Nat} {K:KL} {w w0:World} {f:Nat} {listed:Array Bool} {p:Nat -> Prop}
def dI(P:Program)(N:Nat)(ops:Array Oper)(n:Nat)(Q:Exit->Act->World->Prop)(p:Nat->Prop)(w0:World)(f:Nat)(listed:Array Bool)(K:KL)(w:World)(j:Nat):Prop:=
 HeadInv .any ops n listed->Af p w0 w->∀a,Kn N K a->wpOp P ops Q j (fun a' w'=>(j<n->Af p w0 w')∧Ct P .any ops n Q (fun w'=>Af p w0 w') f (listed.setIfInBounds j true) a' w') a w
theorem EK.many{js:List Nat}(hr:Region.ready .any ops listed=js)(hne:js.isEmpty=false)(h:∀j∈js,dI P N ops n Q p w0 f listed K w j):EK P N ops n Q p w0 (f+1) listed K w:=by
 intro inv hx a hK
 refine⟨fun h0=>(by rw [hr]at h0;subst h0;cases hne),fun j hj=>?_⟩
 rw [hr]at hj
 exact h j hj inv hx a hK
theorem dI.eff{o:Oper}{R:Value->World->Prop}(i:Nat)(hi:ops[i]? =some o)(hin:Nat.blt i n=true)(hr:(Region.ready .any ops listed).contains i=true)(hg:o.guard=none)(hd:DD N o.dst=true)
 (h:JY P N K o w R) (k:∀v w',R v w'->Af p w0 w'∧EK P N ops n (noPan Q) p w0 f (listed.setIfInBounds i true) (Do K o.dst v) w'):dI P N ops n (noPan Q) p w0 f listed K w i:=by
 intro inv hx a hK
 have hin':i<n:=by have h2:=hin;simp [Nat.blt]at h2;omega
 have hri:i∈Region.ready .any ops listed:=by simpa using hr
 unfold wpOp
 simp only [hi]
 rw [if_pos (by simp [Region.wanted,hg])]
 refine .inl (h a hK _ _ fun u w' hR=>?_)
 obtain⟨h1,h2⟩:=k u w' hR
 exact⟨fun _=>h1,h2 (inv.set hri hin') h1 _ (hK.put (DD.h hd))⟩
theorem Af.trans(h:Af p w0 w){w2:World}(h2:Af p w w2):Af p w0 w2:=h.but h2 fun _ hk=>.inl hk
theorem EK.shrink(h:EK P N ops n Q p w f listed K w):EK P N ops n Q p w0 f listed K w:=by
 intro inv hx a hK
 exact Ct.mono (fun w2 h2=>Af.trans hx h2) _ _ _ _ (h inv (Af.refl p w) a hK)
end
end Go.Eng
namespace Go.Eng
open Go Go.RowKit
/-! ## The beginning of an own slice -/
def Wn(v:Value)(m:Nat):Value:=match v with
 | .slice a _ cap=>.slice a m cap
 |v=>v
section
variable {P:Program} {N:Nat} {o:Oper} {K:KL} {w:World}
variable {α:Type} {c:Co α} {B:Nat} {S:Nat -> Prop} {e:TypeId} {xs:List α} {v:Value}
theorem PG{m:Nat}:(Wn v m).ownBlock=v.ownBlock:=by
 cases v with
 |slice a n cap=>cases a<;>rfl
 |_=>rfl
theorem AC.cut(h:AC c w B S e xs v){m:Nat}(hm:m<=xs.length):AC c w B S e (xs.take m) (Wn v m):=by
 obtain⟨cs,⟨hl,h1⟩,h2⟩:=h
 have hmn:m*c.n<=xs.length*c.n:=Nat.mul_le_mul_right _ hm
 refine⟨cs.take (m*c.n),⟨?_,?_⟩,?_⟩
 ·rw [List.length_take,List.length_take]
  rw [show min m xs.length=m by omega];omega
 ·rw [List.length_take,show min m xs.length=m by omega]
  rcases h1 with ⟨rfl,h0⟩|⟨g,cap,cur,rfl,a1,a2,a3,a4,a5,a6⟩
  ·obtain rfl:m=0:=by omega
   exact .inl ⟨rfl,rfl⟩
  ·refine .inr ⟨g,cap,cur,rfl,a1,a2,by omega,a4,a5,?_⟩
   rw [←a6,List.take_take]
   congr 1;omega
 ·intro i x hx
  have hi:i<m:=by
   have:=(List.getElem?_eq_some_iff.1 hx).1
   rw [List.length_take]at this;omega
  rw [List.getElem?_take_of_lt hi]at hx
  have:=h2 i x hx
  have e1:BM (cs.take (m*c.n)) c.n i=BM cs c.n i:=by
   unfold BM
   have:(i+1)*c.n<=m*c.n:=Nat.mul_le_mul_right _ (by omega)
   rw [Nat.add_mul]at this
   rw [List.drop_take,List.take_take]
   congr 1;omega
  rw [e1];exact this
end
end Go.Eng
namespace Go.Eng
open Go Go.RowKit
/-! ## Steps that ask for no fact, many at once -/
def Xc(op:BinOp)(k:IntKind)(m n:Int):Option Value:=match op with
 | .add=>some (.int k (k.wrap (m+n)))
 | .sub=>some (.int k (k.wrap (m-n)))
 | .mul=>some (.int k (k.wrap (m*n)))
 | .quo=>bif n==0 then none else some (.int k (k.wrap (m.tdiv n)))
 | .rem=>bif n==0 then none else some (.int k (m.tmod n))
 | .lss=>some (.bool (decide (m<n)))
 | .leq=>some (.bool (decide (m<=n)))
 | .gtr=>some (.bool (decide (m>n)))
 | .geq=>some (.bool (decide (m>=n)))
 | .eql=>some (.bool (m==n))
 | .neq=>some (.bool (m !=n))
 |_=>none
def yq(K:KL)(p:Op):Option Value:=match p with
 | .move x=>CK K x
 | .assign x=>CK K x
 | .binOp op _ x y _=>match CK K x,CK K y with
  |some (.int k m),some (.int k' n)=>bif decide (k=k')then Xc op k m n else none
  |some (.string a),some (.string b)=>match op with
   | .eql=>some (.bool (a.toList==b.toList))
   | .neq=>some (.bool (a.toList !=b.toList))
   |_=>none
  |_,_=>none
 | .unOp u _ x=>match CK K x with
  |some (.bool b)=>match u with
   | .not=>some (.bool (!b))
   |_=>none
  |some (.int k m)=>match u with
   | .neg=>some (.int k (k.wrap (0-m)))
   |_=>none
  |_=>none
 | .extract x i=>match CK K x with
  |some (.tuple vs)=>vs[i]?
  |_=>none
 | .pick c x y=>match CK K c with
  |some (.bool b)=>match b with
   |true=>CK K x
   |false=>CK K y
  |_=>none
 |_=>none
section
variable {P:Program} {N:Nat}
theorem Vz{K:KL}{o:Oper}{w:World}{op t x y u k m n v}(ho:o.op= .binOp op t x y u)(hx:CK K x=some (.int k m))(hy:CK K y=some (.int k n))(h:Xc op k m n=some v):EH P N K o w v:=by
 cases op<;>simp only [Xc,Option.some.injEq,reduceCtorEq]at h
 case add=>subst h;exact WQ ho hx hy
 case sub=>subst h;exact WB ho hx hy
 case mul=>subst h;exact WZ ho hx hy
 case quo=>obtain⟨h1,h2⟩:=MO h;obtain rfl:=Option.some.inj h2;exact RR ho hx hy h1
 case rem=>obtain⟨h1,h2⟩:=MO h;obtain rfl:=Option.some.inj h2;exact KE ho hx hy h1
 case lss=>subst h;exact Wp ho hx hy
 case leq=>subst h;exact Wj ho hx hy
 case gtr=>subst h;exact Vr ho hx hy
 case geq=>subst h;exact Vy ho hx hy
 case eql=>subst h;exact WP ho hx hy
 case neq=>subst h;exact Vm ho hx hy
theorem Pj{K:KL}{o:Oper}{w:World}{v:Value}(h:yq K o.op=some v):EH P N K o w v:=by
 generalize ho:o.op=p at h
 cases p<;>simp only [yq,reduceCtorEq]at h
 case move=>exact UJ ho h
 case assign=>exact Pu ho h
 case binOp=>
  split at h
  ·rename_i k m k' n hx hy
   by_cases hk:k=k'
   ·subst hk;rw [decide_eq_true rfl]at h;exact Vz ho hx hy h
   ·rw [decide_eq_false hk]at h;cases h
  ·rename_i a b hx hy
   split at h
   ·obtain rfl:=Option.some.inj h;exact Va ho hx hy
   ·obtain rfl:=Option.some.inj h;exact Wb ho hx hy
   ·cases h
  ·cases h
 case unOp=>
  split at h
  ·rename_i b hx
   split at h
   ·obtain rfl:=Option.some.inj h;exact Vl ho hx
   ·cases h
  ·rename_i k m hx
   split at h
   ·obtain rfl:=Option.some.inj h;exact Vo ho hx
   ·cases h
  ·cases h
 case extract=>
  split at h
  ·rename_i vs hx;exact Pg ho hx h
  ·cases h
 case pick=>
  split at h
  ·rename_i b hc
   split at h
   ·exact Qh ho hc rfl h
   ·exact QS ho hc rfl h
  ·cases h
end
inductive Gd where
 |yes|skip|no
def Ll(N:Nat)(ops:Array Oper)(K:KL)(o:Oper):Gd:=match DD N o.dst with
 |false=>.no
 |true=>match o.guard with
  |none=>.yes
  |some (j,want)=>match Lu ops j with
   |none=>.no
   |some t=>match kl K t with
    |some (.bool b)=>match b with
     |true=>match want with
      |true=>.yes
      |false=>.skip
     |false=>match want with
      |true=>.skip
      |false=>.yes
    |some (.tuple _)=>.skip
    |_=>.no
section
variable {P:Program} {N:Nat} {ops:Array Oper} {Q:Exit -> Act -> World -> Prop} {K:KL} {w:World} {o:Oper} {rest:List Oper} {Qa:Act -> Prop}
theorem KM{g:Gd}(h:Ll N ops K o=g)(hg:g≠ .no):DD N o.dst=true:=by
 subst h
 cases hd:DD N o.dst with
 |true=>rfl
 |false=>exact absurd (by simp [Ll,hd]) hg
theorem Fa(h:Ll N ops K o= .yes){a:Act}(hK:Kn N K a):Region.wanted o (yielded ops a.tmps)=true:=by
 unfold Ll at h
 split at h
 ·cases h
 split at h
 ·rename_i hg;simp [Region.wanted,hg]
 ·rename_i j want hg
  split at h
  ·cases h
  ·rename_i t hs
   split at h
   ·rename_i b hb
    refine QN hK hg hs hb ?_
    cases b<;>cases want<;>first|rfl|cases h
   ·cases h
   ·cases h
theorem NS(h:Ll N ops K o= .skip){a:Act}(hK:Kn N K a):Region.wanted o (yielded ops a.tmps)=false:=by
 unfold Ll at h
 split at h
 ·cases h
 split at h
 ·cases h
 ·rename_i j want hg
  split at h
  ·cases h
  ·rename_i t hs
   split at h
   ·rename_i b hb
    refine SD hK hg hs hb ?_
    cases b<;>cases want<;>first|rfl|cases h
   ·rename_i x hb
    have h1:=hK.get t _ hb
    unfold Lu at hs
    simp [Region.wanted,hg,yielded,hs,h1]
   ·cases h
theorem Yl{v:Value}(h0:Ll N ops K o= .yes)(h:EH P N K o w v)(k:TL P N ops Q rest (Do K o.dst v) w):TL P N ops Q (o::rest) K w:=by
 intro a hK
 unfold wpList
 rw [if_pos (Fa h0 hK)]
 exact .inl (h.eff a hK _ Q fun u w' ⟨e1,e2⟩=>by subst e1 e2;exact k _ (hK.put (DD.h (KM h0 (by simp)))))
theorem Ef{R:Value->World->Prop}(h0:Ll N ops K o= .yes)(h:JY P N K o w R)(k:∀v w',R v w'->TL P N ops Q rest (Do K o.dst v) w'):TL P N ops Q (o::rest) K w:=by
 intro a hK
 unfold wpList
 rw [if_pos (Fa h0 hK)]
 exact .inl (h a hK _ Q fun u w' hR=>k u w' hR _ (hK.put (DD.h (KM h0 (by simp)))))
theorem Ye{Ψ:Value->Prop}(h0:Ll N ops K o= .yes)(h:YE P N K o w Ψ)(k:∀v,Ψ v->TL P N ops Q rest (Do K o.dst v) w):TL P N ops Q (o::rest) K w:=by
 obtain⟨v,h1,h2⟩:=h;exact Yl h0 h1 (k v h2)
theorem Sk(h0:Ll N ops K o= .skip)(k:TL P N ops Q rest (Do K o.dst undef) w):TL P N ops Q (o::rest) K w:=by
 intro a hK
 unfold wpList
 rw [if_neg (by rw [NS h0 hK];exact Bool.false_ne_true)]
 exact k _ (hK.put (DD.h (KM h0 (by simp))))
theorem Ql{v:Value}(h0:Ll N ops K o= .yes)(h:dV P N K o w v)(k:QL P N ops w Qa rest (Do K o.dst v)):QL P N ops w Qa (o::rest) K:=by
 intro a hK
 unfold wpQuiet
 rw [if_pos (Fa h0 hK)]
 exact⟨v,fun w' hw'=>h a hK w' hw',k _ (hK.put (DD.h (KM h0 (by simp))))⟩
theorem Qy{v:Value}(h0:Ll N ops K o= .yes)(h:EH P N K o w v)(k:QL P N ops w Qa rest (Do K o.dst v)):QL P N ops w Qa (o::rest) K:=Ql h0 h.qui k
theorem Qe{Ψ:Value->Prop}(h0:Ll N ops K o= .yes)(h:YE P N K o w Ψ)(k:∀v,Ψ v->QL P N ops w Qa rest (Do K o.dst v)):QL P N ops w Qa (o::rest) K:=by
 obtain⟨v,h1,h2⟩:=h;exact Qy h0 h1 (k v h2)
theorem Qs(h0:Ll N ops K o= .skip)(k:QL P N ops w Qa rest (Do K o.dst undef)):QL P N ops w Qa (o::rest) K:=by
 intro a hK
 unfold wpQuiet
 rw [if_neg (by rw [NS h0 hK];exact Bool.false_ne_true)]
 exact k _ (hK.put (DD.h (KM h0 (by simp))))
theorem Kn.know{a:Act}{t:Nat}{u u':Value}(hK:Kn N K a)(h:kl K t=some u)(e:u=u'):Kn N ((t,u')::K) a:=by
 subst e
 refine⟨hK.df,hK.sz,fun s v hs=>hK.get s v ?_⟩
 simp only [kl]at hs
 cases hb:Nat.beq t s with
 |true=>obtain rfl:=Nat.eq_of_beq_eq_true hb;rw [hb]at hs;simp at hs;subst hs;exact h
 |false=>rw [hb]at hs;simpa using hs
theorem Kc(t:Nat){b b':Bool}{l:List Oper}(e:b=b')(h:kl K t=some (.bool b))(k:TL P N ops Q l ((t,.bool b')::K) w):TL P N ops Q l K w:=fun a hK=>k a (hK.know h (by rw [e]))
theorem Kq(t:Nat){b b':Bool}{l:List Oper}(e:b=b')(h:kl K t=some (.bool b))(k:QL P N ops w Qa l ((t,.bool b')::K)):QL P N ops w Qa l K:=fun a hK=>k a (hK.know h (by rw [e]))
theorem FT{c b:Bool}(h:c=true):b=(c&&b):=by subst h;rfl
theorem FR{c b:Bool}(h:c=false):false=(c&&b):=by subst h;rfl
theorem MN{c b:Bool}(h:c=true):true=(c||b):=by subst h;rfl
theorem MG{c b:Bool}(h:c=false):b=(c||b):=by subst h;rfl
end
inductive Frame where
 |seq (c:Code)
 |blk (id:Nat)
 |lp (f:Act->World->Prop)
inductive Md where
 |c (c:Code)
 |o (ops:Array Oper) (l:List Oper)
 |e (e:Exit)
section
variable (P:Program) (N:Nat) (Q0:Exit -> Act -> World -> Prop)
def ND:List Frame->Exit->Act->World->Prop
 |[]=>Q0
 | .seq c::fs=>Exit.then (fun a w=>c.wp P (ND fs) a w) (ND fs)
 | .blk id::fs=>Exit.inBlock id (ND fs)
 | .lp f::fs=>Exit.then f (ND fs)
def kY(m:Md)(fs:List Frame)(K:KL)(w:World):Prop:=match m with
 | .c c=>WC P N c (ND P Q0 fs) K w
 | .o ops l=>TL P N ops (ND P Q0 fs) l K w
 | .e e=>NX N (ND P Q0 fs) e K w
def Gy:Nat->Md->List Frame->KL->World->Prop
 |0=>fun m fs K w=>kY P N Q0 m fs K w
 |n+1=>fun m fs K w=>match m with
  | .c c=>match c with
   | .seq x y=>Gy n (.c x) (.seq y::fs) K w
   | .region _ ops false=>Gy n (.o ops ops.toList) fs K w
   | .block id x=>Gy n (.c x) (.blk id::fs) K w
   | .skip=>Gy n (.e .normal) fs K w
   | .exit id=>Gy n (.e (.exit id)) fs K w
   | .ret=>Gy n (.e .ret) fs K w
   |_=>False
  | .o ops l=>match l with
   |[]=>Gy n (.e .normal) fs K w
   |o::rest=>match Ll N ops K o with
    | .yes=>match yq K o.op with
     |some v=>Gy n (.o ops rest) fs (Do K o.dst v) w
     |none=>False
    | .skip=>Gy n (.o ops rest) fs (Do K o.dst undef) w
    | .no=>False
  | .e e=>match fs with
   |[]=>False
   | .seq c::fs=>match e with
    | .normal=>Gy n (.c c) fs K w
    | .ret=>Gy n (.e .ret) fs K w
    | .exit id=>Gy n (.e (.exit id)) fs K w
    |_=>False
   | .blk id::fs=>match e with
    | .normal=>Gy n (.e .normal) fs K w
    | .ret=>Gy n (.e .ret) fs K w
    | .exit id'=>bif Nat.beq id' id then Gy n (.e .normal) fs K w else Gy n (.e (.exit id')) fs K w
    |_=>False
   | .lp f::fs=>match e with
    | .normal=>∀a,Kn N K a->f a w
    | .ret=>Gy n (.e .ret) fs K w
    | .exit id=>Gy n (.e (.exit id)) fs K w
    |_=>False
end
section
variable {P:Program} {N:Nat} {Q0:Exit -> Act -> World -> Prop}
theorem Gy.ok:∀(n:Nat) {m:Md} {fs:List Frame} {K:KL} {w:World},Gy P N Q0 n m fs K w->kY P N Q0 m fs K w
 |0,_,_,_,_,h=>h
 |n+1,m,fs,K,w,h=>by
  cases m with
  |c c=>
   cases c with
   |seq x y=>exact WC.seq (Gy.ok n h)
   |region id ops d=>
    cases d with
    |false=>
     have h2:TL P N ops (ND P Q0 fs) ops.toList K w:=Gy.ok n h
     show WC P N (.region id ops false) (ND P Q0 fs) K w
     have:ops=ops.toList.toArray:=by simp
     rw [this];rw [this]at h2
     exact WC.region (by simpa using h2)
    |true=>exact h.elim
   |block id x=>exact WC.block (Gy.ok n h)
   |skip=>exact WC.skip' (Gy.ok n h)
   |exit id=>exact WC.exit' (Gy.ok n h)
   |ret=>exact WC.ret' (Gy.ok n h)
   |cond _ _ _=>exact h.elim
   |loop _=>exact h.elim
   |_=>exact h.elim
  |o ops l=>
   cases l with
   |nil=>exact TL.done (Gy.ok n h)
   |cons o rest=>
    simp only [Gy]at h
    split at h
    ·rename_i hg
     split at h
     ·rename_i v hv;exact Yl hg (Pj hv) (Gy.ok n h)
     ·exact h.elim
    ·rename_i hg;exact Sk hg (Gy.ok n h)
    ·exact h.elim
  |e e=>
   cases fs with
   |nil=>exact h.elim
   |cons f fs=>
    cases f with
    |seq c=>
     cases e with
     |normal=>exact NX.seq (Gy.ok n h)
     |ret=>exact NX.then_r (Gy.ok n h)
     |exit id=>exact NX.then_e (Gy.ok n h)
     |_=>exact h.elim
    |blk id=>
     cases e with
     |normal=>exact NX.blk_n (Gy.ok n h)
     |ret=>exact NX.blk_r (Gy.ok n h)
     |exit id'=>
      simp only [Gy]at h
      cases hb:Nat.beq id' id with
      |true=>
       rw [hb]at h
       obtain rfl:=Nat.eq_of_beq_eq_true hb
       exact NX.blk_hit (Gy.ok n h)
      |false=>rw [hb]at h;exact NX.blk_miss hb (Gy.ok n h)
     |_=>exact h.elim
    |lp f=>
     cases e with
     |normal=>exact NX.then_n h
     |ret=>exact NX.then_r (Gy.ok n h)
     |exit id=>exact NX.then_e (Gy.ok n h)
     |_=>exact h.elim
variable {K:KL} {w:World} {fs:List Frame} {ops:Array Oper}
theorem Rc(n:Nat){c:Code}(h:Gy P N Q0 n (.c c) fs K w):WC P N c (ND P Q0 fs) K w:=Gy.ok (m:=.c c) n h
theorem Ro(n:Nat){l:List Oper}(h:Gy P N Q0 n (.o ops l) fs K w):TL P N ops (ND P Q0 fs) l K w:=Gy.ok (m:=.o ops l) n h
theorem Re(n:Nat){e:Exit}(h:Gy P N Q0 n (.e e) fs K w):NX N (ND P Q0 fs) e K w:=Gy.ok (m:=.e e) n h
theorem AF{f:FuncId}{fn:Func}{c:Code}{vs:List Value}{w:World}{R:Ending->World->Prop}
 (hf:P.funcs[f]? =some fn) (hb:fn.body=some c) (hn:fn.ntmps=N) (h:WC P N c (ND P (bodyPost P fn R) []) (OE 0 vs) w):Calls P f vs.toArray w R:=UR hf hb hn h
theorem WC.loopD{c:Code}(I:Nat->Act->World->Prop)(m:Nat)(h0:∀a,Kn N K a->I m a w)
 (round:∀m a w,I m a w->c.wp P (ND P Q0 (.lp (fun a' w'=>∃m',m'<m∧I m' a' w')::fs)) a w):WC P N (.loop c) (ND P Q0 fs) K w:=WC.loop I m h0 round
theorem TL.cutD{l:List Oper}(k:Nat)(K':KL)(R:World->Prop)(h1:TL P N ops (ND P Q0 (.lp (fun a' w'=>Kn N K' a'∧R w')::fs)) (l.take k) K w)(h2:∀w',R w'->TL P N ops (ND P Q0 fs) (l.drop k) K' w'):TL P N ops (ND P Q0 fs) l K w:=TL.cut k K' R h1 h2
end
section
variable (P:Program) (N:Nat) (ops:Array Oper)
def WH(Q:Exit->Act->World->Prop):Nat->List Oper->KL->World->Prop
 |0=>fun l K w=>TL P N ops Q l K w
 |n+1=>fun l K w=>match l with
  |[]=>False
  |o::rest=>match Ll N ops K o with
   | .yes=>match yq K o.op with
    |some v=>WH Q n rest (Do K o.dst v) w
    |none=>False
   | .skip=>WH Q n rest (Do K o.dst undef) w
   | .no=>False
def We(w:World)(Qa:Act->Prop):Nat->List Oper->KL->Prop
 |0=>fun l K=>QL P N ops w Qa l K
 |n+1=>fun l K=>match l with
  |[]=>False
  |o::rest=>match Ll N ops K o with
   | .yes=>match yq K o.op with
    |some v=>We w Qa n rest (Do K o.dst v)
    |none=>False
   | .skip=>We w Qa n rest (Do K o.dst undef)
   | .no=>False
end
section
variable {P:Program} {N:Nat} {ops:Array Oper} {Q:Exit -> Act -> World -> Prop} {Qa:Act -> Prop}
theorem Tr:∀(n:Nat) {l:List Oper} {K:KL} {w:World},WH P N ops Q n l K w->TL P N ops Q l K w
 |0,_,_,_,h=>h
 |n+1,l,K,w,h=>by
  cases l with
  |nil=>exact h.elim
  |cons o rest=>
   simp only [WH]at h
   split at h
   ·rename_i hg
    split at h
    ·rename_i v hv;exact Yl hg (Pj hv) (Tr n h)
    ·exact h.elim
   ·rename_i hg;exact Sk hg (Tr n h)
   ·exact h.elim
theorem Qr{w:World}:∀(n:Nat) {l:List Oper} {K:KL},We P N ops w Qa n l K->QL P N ops w Qa l K
 |0,_,_,h=>h
 |n+1,l,K,h=>by
  cases l with
  |nil=>exact h.elim
  |cons o rest=>
   simp only [We]at h
   split at h
   ·rename_i hg
    split at h
    ·rename_i v hv;exact Qy hg (Pj hv) (Qr n h)
    ·exact h.elim
   ·rename_i hg;exact Qs hg (Qr n h)
   ·exact h.elim
end
end Go.Eng
namespace Go.Eng
open Go Go.RowKit
/-! ## Operations, read off at once -/
def gH(K:KL)(p:Op):Option (Nat×Nat×Nat×Nat):=match p with
 | .fieldAddr t x f=>match CK K x with
  |some (.pointer (some ⟨b,off,none⟩))=>some (t,f,b,off)
  |_=>none
 |_=>none
def Zh(K:KL)(p:Op):Option (Nat×Nat×Nat):=match p with
 | .load t x=>match CK K x with
  |some (.pointer (some ⟨b,off,none⟩))=>some (t,b,off)
  |_=>none
 |_=>none
def aV(K:KL)(p:Op):Option (Nat×Nat×Nat×Value):=match p with
 | .store t x y=>match CK K x with
  |some (.pointer (some ⟨b,off,none⟩))=>match CK K y with
   |some v=>some (t,b,off,v)
   |none=>none
  |_=>none
 |_=>none
def eN(K:KL)(p:Op):Option (Nat×Value):=match p with
 | .call ⟨.builtin .len,⟨[x]⟩,⟨[t]⟩⟩=>match CK K x with
  |some v=>some (t,v)
  |none=>none
 |_=>none
def aR(K:KL)(p:Op):Option (Nat×Value×IntKind×Int):=match p with
 | .indexAddr t x i=>match CK K x with
  |some v=>match CK K i with
   |some (.int k m)=>some (t,v,k,m)
   |_=>none
  |none=>none
 |_=>none
def eM(K:KL)(p:Op):Option (Nat×List Value):=match p with
 | .call ⟨.value (.func f),xs,_⟩=>match Mp K xs.toList with
  |some vs=>some (f,vs)
  |none=>none
 |_=>none
section
variable {P:Program} {N:Nat} {K:KL} {o:Oper} {w:World}
theorem ZP{t f b off:Nat}(h:gH K o.op=some (t,f,b,off)):∃x,o.op= .fieldAddr t x f∧CK K x=some (.pointer (some ⟨b,off,none⟩)):=by
 unfold gH at h
 split at h
 ·rename_i t' x f' ho
  split at h
  ·rename_i b' off' hx
   simp only [Option.some.injEq,Prod.mk.injEq]at h
   obtain⟨rfl,rfl,rfl,rfl⟩:=h
   exact⟨x,ho,hx⟩
  ·cases h
 ·cases h
theorem Oj{t b off:Nat}(h:Zh K o.op=some (t,b,off)):∃x,o.op= .load t x∧CK K x=some (.pointer (some ⟨b,off,none⟩)):=by
 unfold Zh at h
 split at h
 ·rename_i t' x ho
  split at h
  ·rename_i b' off' hx
   simp only [Option.some.injEq,Prod.mk.injEq]at h
   obtain⟨rfl,rfl,rfl⟩:=h
   exact⟨x,ho,hx⟩
  ·cases h
 ·cases h
theorem Qi{t b off:Nat}{v:Value}(h:aV K o.op=some (t,b,off,v)):∃x y,o.op= .store t x y∧CK K x=some (.pointer (some ⟨b,off,none⟩))∧CK K y=some v:=by
 unfold aV at h
 split at h
 ·rename_i t' x y ho
  split at h
  ·rename_i b' off' hx
   split at h
   ·rename_i v' hy
    simp only [Option.some.injEq,Prod.mk.injEq]at h
    obtain⟨rfl,rfl,rfl,rfl⟩:=h
    exact⟨x,y,ho,hx,hy⟩
   ·cases h
  ·cases h
 ·cases h
theorem Ur{t:Nat}{v:Value}(h:eN K o.op=some (t,v)):∃x,o.op= .call { callee:=.builtin .len,args:=#[x],argTypes:=#[t] }∧CK K x=some v:=by
 unfold eN at h
 split at h
 ·rename_i x t' ho
  split at h
  ·rename_i v' hx
   simp only [Option.some.injEq,Prod.mk.injEq]at h
   obtain⟨rfl,rfl⟩:=h
   exact⟨x,ho,hx⟩
  ·cases h
 ·cases h
theorem QJ{t:Nat}{v:Value}{k:IntKind}{m:Int}(h:aR K o.op=some (t,v,k,m)):∃x i,o.op= .indexAddr t x i∧CK K x=some v∧CK K i=some (.int k m):=by
 unfold aR at h
 split at h
 ·rename_i t' x i ho
  split at h
  ·rename_i v' hx
   split at h
   ·rename_i k' m' hi
    simp only [Option.some.injEq,Prod.mk.injEq]at h
    obtain⟨rfl,rfl,rfl,rfl⟩:=h
    exact⟨x,i,ho,hx,hi⟩
   ·cases h
  ·cases h
 ·cases h
theorem SM{f:Nat}{vs:List Value}(h:eM K o.op=some (f,vs)):∃xs ts,o.op= .call { callee:=.value (.func f),args:=xs,argTypes:=ts }∧Mp K xs.toList=some vs:=by
 unfold eM at h
 split at h
 ·rename_i f' xs ts ho
  split at h
  ·rename_i vs' hx
   simp only [Option.some.injEq,Prod.mk.injEq]at h
   obtain⟨rfl,rfl⟩:=h
   exact⟨xs,ts,ho,hx⟩
  ·cases h
 ·cases h
theorem AY{t f b off fo:Nat}(h:gH K o.op=some (t,f,b,off))(hf:Am P t f=some fo):EH P N K o w (.pointer (some ⟨b,off+fo,none⟩)):=by
 obtain⟨x,ho,hx⟩:=ZP h;exact Nv ho hf hx
theorem Aj{t b off:Nat}{us:List Value}{T:TypeId}{u:Value}(h:Zh K o.op=some (t,b,off))(ha:DN P t=some false)(hb:Ak w b us T)(hu:us[off]? =some u):EH P N K o w u:=by
 obtain⟨x,ho,hx⟩:=Oj h;exact OG off ho ha hx hb.cells (Nat.zero_add _).symm hu
theorem BQ(j:Nat){t b off o0:Nat}{us:List Value}{u:Value}(h:Zh K o.op=some (t,b,off))(ha:DN P t=some false)(hcs:AP w b o0 us)(hj:off=o0+j)(hu:us[j]? =some u):EH P N K o w u:=by
 obtain⟨x,ho,hx⟩:=Oj h;exact OG j ho ha hx hcs hj hu
theorem Ba{t b:Nat}{us:List Value}{T:TypeId}(h:Zh K o.op=some (t,b,0))(ha:DN P t=some true)(hb:Ak w b us T)(hn:BX P t=some us.length):EH P N K o w (.agg us.toArray):=by
 obtain⟨x,ho,hx⟩:=Oj h;exact OD ho ha hx hb.cells hn
theorem Dn{t b off:Nat}{us:List Value}(h:Zh K o.op=some (t,b,off))(ha:DN P t=some true)(hc:AP w b off us)(hn:BX P t=some us.length):EH P N K o w (.agg us.toArray):=by
 obtain⟨x,ho,hx⟩:=Oj h;exact OD ho ha hx hc hn
section
variable {α:Type} {c:Co α} {xs:List α} {S:Nat -> Prop} {v:Value} {e:TypeId} {B:Nat}
theorem CL{t:Nat}(h:eN K o.op=some (t,v))(hu:P.underlying t=some (.slice e))(hs:AE c w S xs v):EH P N K o w (.int .i64 xs.length):=by
 obtain⟨x,ho,hx⟩:=Ur h;exact ZW ho hu hx hs
theorem Fx{t:Nat}(h:eN K o.op=some (t,v))(hu:P.underlying t=some (.slice e))(hs:AC c w B S e xs v):EH P N K o w (.int .i64 xs.length):=by
 obtain⟨x,ho,hx⟩:=Ur h;exact PP ho hu hx hs
theorem Bo{y:α}{t:Nat}{k:IntKind}{m:Int}(h:aR K o.op=some (t,v,k,m))(hu:P.underlying t=some (.slice e))(hc:BX P e=some c.n)(hs:AE c w S xs v)(hg:AL xs m=some y):
 YE P N K o w (fun u=>∃b off us,u= .pointer (some ⟨b,off,none⟩)∧S b∧c.rep w S y us∧AP w b off us):=by
 obtain⟨x,i,ho,hx,hi⟩:=QJ h;exact Tk ho hu hc hx hi hs hg
theorem Cf{y:α}{t:Nat}{k:IntKind}{m:Int}(h:aR K o.op=some (t,v,k,m))(hu:P.underlying t=some (.slice e))(hc:BX P e=some c.n)(hs:AC c w B S e xs v)(hg:AL xs m=some y):
 YE P N K o w (fun u=>∃g us,u= .pointer (some ⟨g,0+m.toNat*c.n,none⟩)∧v.ownBlock=some g∧c.rep w S y us∧AP w g (0+m.toNat*c.n) us):=by
 obtain⟨x,i,ho,hx,hi⟩:=QJ h;exact LY ho hu hc hx hi hs hg
end
theorem An{f:Nat}{vs:List Value}{R:Value->World->Prop}(h:eM K o.op=some (f,vs))(hf:BC P f=true)(hc:Calls P f vs.toArray w (Dy R)):JY P N K o w R:=by
 obtain⟨xs,ts,ho,hx⟩:=SM h;exact UO ho hf hx hc
theorem Kk{f:Nat}{vs:List Value}{v:Value}(h:eM K o.op=some (f,vs))(hf:BC P f=true)(hc:∀w',AS w w'->Calls P f vs.toArray w' (Dy fun u w''=>u=v∧AS w' w'')):dV P N K o w v:=by
 obtain⟨xs,ts,ho,hx⟩:=SM h;exact Tz ho hf hx hc
theorem Bg{t b off:Nat}{v:Value}{cur:List Value}{e:TypeId}(h:aV K o.op=some (t,b,off,v))(hb:Ak w b cur e)(hn:BX P t=some v.cells.toList.length)
 (h1:v.cells.toList.all Value.oneCell'=true) (hfit:Nat.ble (off+v.cells.toList.length) cur.length=true):
 JY P N K o w (fun _ w'=>GU b w w'∧Ak w' b (cur.take off++v.cells.toList++cur.drop (off+v.cells.toList.length)) e):=by
 obtain⟨x,y,ho,hx,hy⟩:=Qi h;exact Ny ho hx hy hb hn h1 hfit
/-! ## Worlds, in fewer words -/
theorem Et{w a b:World}(h:AS w a)(k:AS a b):AS w b∧a.heap.size<=b.heap.size:=⟨AS.trans h k,k.size⟩
theorem Bh{p:Nat->Prop}{w a b:World}(h:Af p w a)(k:AS a b):Af p w b∧a.heap.size<=b.heap.size:=⟨Af.ext h k,k.size⟩
theorem Kn.sub{K':KL}{a:Act}(h:Kn N K a)(e:K'.map (fun p=>kl K p.1)=K'.map (fun p=>some p.2)):Kn N K' a:=by
 refine h.weaken ?_
 induction K' with
 |nil=>trivial
 |cons p K' ih=>
  simp only [List.map_cons,List.cons.injEq]at e
  exact⟨e.1,ih e.2⟩
theorem CJ{α:Type}{x y:α}(h:some x=some y):x=y:=Option.some.inj h
theorem CZ{α:Type}{x:α}{p:Prop}(h:none=some x):p:=by cases h
theorem Wc{α:Type}{c:Operand}{x y:Code}{t:Bool}{A B:Option α}{r:α}{Q:Exit->Act->World->Prop}(hc:CK K c=some (.bool t))(hF:(bif t then A else B)=some r)(ht:A=some r->WC P N x Q K w)(hf:B=some r->WC P N y Q K w):WC P N (.cond c x y) Q K w:=
 WC.cond hc (fun h=>ht (TH h hF)) (fun h=>hf (Uz h hF))
def RW(K:KL):List ResultVar->Option (List Value)
 |[]=>some []
 | .tmp t::rs=>match kl K t with
  |some v=>match RW K rs with
   |some vs=>some (v::vs)
   |none=>none
  |none=>none
 | .cell _ _::_=>none
theorem OU:∀{rs:List ResultVar} {vs:List Value},RW K rs=some vs->Mq P K w rs vs
 |[],vs,h=>by obtain rfl:=Option.some.inj h;trivial
 | .tmp t::rs,vs,h=>by
  unfold RW at h
  split at h
  ·rename_i v h1
   split at h
   ·rename_i vs' h2
    obtain rfl:=Option.some.inj h
    exact⟨h1,OU h2⟩
   ·cases h
  ·cases h
 | .cell _ _::_,vs,h=>by cases h
theorem Ne{fn:Func}{rs vs R}(hr:fn.results=List.toArray rs)(ho:RW K rs=some vs)(hR:R (.returned (EQ vs)) w):NX N (bodyPost P fn R) .ret K w:=NX.end hr (OU ho) hR
theorem Nn{fn:Func}{rs vs R}(hr:fn.results=List.toArray rs)(ho:RW K rs=some vs)(hR:R (.returned (EQ vs)) w):NX N (bodyPost P fn R) .normal K w:=NX.end_n hr (OU ho) hR
end
end Go.Eng
namespace Go.Eng
open Go Go.RowKit
theorem Eu{w a c:World}{b:Nat}(h:AS w a)(hu:GU b a c)(hb:w.heap.size<=b:=by omega):AS w c∧c.heap.size=a.heap.size:=⟨Below.trans h (GU.below hu hb),hu.size⟩
theorem CO{p:Nat->Prop}{w a c:World}{b:Nat}(h:Af p w a)(hu:GU b a c)(hb:p b∨w.heap.size<=b):Af p w c∧c.heap.size=a.heap.size:=⟨Af.upd h hu hb,hu.size⟩
/-! ## What keeps slices apart -/
abbrev Nb(v:Value)(b:Nat):Prop:=∀g,v.ownBlock=some g->g≠b
abbrev Ns(v:Value)(lo hi:Nat):Prop:=∀g,v.ownBlock=some g->g<lo∨hi<=g
abbrev No(v u:Value):Prop:=∀g q,v.ownBlock=some g->u.ownBlock=some q->g≠q
abbrev Bd(v:Value)(lo hi:Nat):Prop:=∀q,v.ownBlock=some q->lo<=q∧q<hi
section
variable {v v' u:Value} {b lo hi lo' hi':Nat} {w w':World}
theorem Nb.of(h:Bd v lo hi)(k:b<lo∨hi<=b:=by omega):Nb v b:=fun g hg=>by have:=h g hg;omega
theorem Ns.of(h:Bd v lo hi)(k:hi'<=lo∨hi<=lo':=by omega):Ns v lo' hi':=fun g hg=>by have:=h g hg;omega
theorem No.of(h:Bd v lo hi)(h':Bd u lo' hi')(k:hi<=lo'∨hi'<=lo:=by omega):No v u:=fun g q hg hq=>by have:=h g hg;have:=h' q hq;omega
theorem No.symm(h:No v u):No u v:=fun g q hg hq e=>h q g hq hg e.symm
theorem Gb(h:AO w w' v v')(k:Nb v b)(hb:b<w.heap.size:=by omega):Nb v' b:=AO.sepP (p:=fun g=>g≠b) h k (fun g hg=>by omega)
theorem Gs(h:AO w w' v v')(k:Ns v lo hi)(hb:hi<=w.heap.size:=by omega):Ns v' lo hi:=AO.sepP (p:=fun g=>g<lo∨hi<=g) h k (fun g hg=>by omega)
theorem Gn(h:AO w w' v v')(k:No v u)(hb:Bd u lo hi)(hh:hi<=w.heap.size:=by omega):No v' u:=fun g q hg hq=>
 AO.sepP (p:=fun g=>∀q,u.ownBlock=some q->g≠q) h (fun g hg q hq=>k g q hg hq) (fun g hg q hq=>by have:=hb q hq;omega) g hg q hq
theorem Ge(h:AS w w'){w2:World}(hg:AO w' w2 v v')(k:Bd v lo hi)(hl:w.heap.size<=lo:=by omega):AS w w2∧w'.heap.size<=w2.heap.size:=⟨Below.trans h (AO.low hg (fun g hg=>by have:=k g hg;omega) h.size),hg.1.size⟩
theorem EN{α:Type}{c:Co α}{B:Nat}{S:Nat->Prop}{e:TypeId}{zs:List α}(h:AO w w' v v')(ho:AC c w' B S e zs v')(k:Bd v lo hi)(hl:lo<=w.heap.size:=by omega)(hh:hi<=w'.heap.size:=by omega):Bd v' lo w'.heap.size:=AO.bd h ho k hl hh
theorem AC.bd{α:Type}{c:Co α}{B:Nat}{S:Nat->Prop}{e:TypeId}{zs:List α}(ho:AC c w B S e zs v):Bd v B w.heap.size:=ho.blk
end
end Go.Eng
namespace Go.Eng
open Go Go.RowKit
theorem AE.oh{α:Type}{c:Co α}{w w':World}{lo H:Nat}{xs:List α}{v:Value}(h:AE c w (Iv lo H) xs v)(hH:H<=w.heap.size)(he:AS w w'):AE c w' (Iv lo H) xs v:=h.old he hH
theorem AE.ph{α:Type}{c:Co α}{w w':World}{H:Nat}{xs:List α}{v:Value}(h:AE c w (Iv 0 H) xs v)(hH:H<=w.heap.size)(he:AS w w'):AE c w' (Iv 0 w'.heap.size) xs v:=(h.old he hH).wide (Nat.le_refl _) (Nat.le_trans hH he.size)
end Go.Eng
namespace Go.Eng
open Go Go.RowKit
/-! ## Regions whose order is drawn, with guards -/
section
variable {P:Program} {N:Nat} {ops:Array Oper} {Q:Exit -> Act -> World -> Prop} {n:Nat} {K:KL} {w w0:World} {f:Nat} {listed:Array Bool} {p:Nat -> Prop}
theorem Mf{o:Oper}{g:Gd}(h:Ll N ops K o=g)(hg:g≠ .no):∀t,o.dst=some t->Nat.blt t N=true:=DD.h (KM h hg)
theorem iU{o:Oper}{v:Value}(i:Nat)(hh:ED ops n=true)(hi:ops[i]? =some o)(hc:(Nat.blt i n&&Region.free .any ops listed i&&(Region.ready .any ops listed).contains i)=true)(h0:Ll N ops K o= .yes)
 (h:EH P N K o w0 v) (k:HL P N ops n (noPan Q) w0 f (listed.setIfInBounds i true) (Do K o.dst v) w):HL P N ops n (noPan Q) w0 (f+1) listed K w:=by
 intro inv hx a hK
 obtain⟨hs,hn,ht⟩:=ED.spec hh
 simp only [Bool.and_eq_true]at hc
 have hin:i<n:=by have h2:=hc.1.1;simp [Nat.blt]at h2;omega
 have hr:i∈Region.ready .any ops listed:=by simpa using hc.2
 refine Ct.first hi hin hn (Region.noSelect_spec hs) ht (fun c a w h=>h.elim) f listed a w inv (Region.free_spec hi hc.1.2) hr ?_ hx (k (inv.set hr hin) hx _ (hK.put (Mf h0 (by simp))))
 exact .inl ⟨Fa h0 hK,fun w' hw'=>h a hK w' hw'⟩
theorem iM{o:Oper}{Ψ:Value->Prop}(i:Nat)(hh:ED ops n=true)(hi:ops[i]? =some o)(hc:(Nat.blt i n&&Region.free .any ops listed i&&(Region.ready .any ops listed).contains i)=true)(h0:Ll N ops K o= .yes)
 (h:YE P N K o w0 Ψ) (k:∀v,Ψ v->HL P N ops n (noPan Q) w0 f (listed.setIfInBounds i true) (Do K o.dst v) w):HL P N ops n (noPan Q) w0 (f+1) listed K w:=by
 obtain⟨v,h1,h2⟩:=h;exact iU i hh hi hc h0 h1 (k v h2)
theorem nH{o:Oper}(i:Nat)(hh:ED ops n=true)(hi:ops[i]? =some o)(hc:(Nat.blt i n&&Region.free .any ops listed i&&(Region.ready .any ops listed).contains i)=true)(h0:Ll N ops K o= .skip)
 (k:HL P N ops n (noPan Q) w0 f (listed.setIfInBounds i true) (Do K o.dst undef) w):HL P N ops n (noPan Q) w0 (f+1) listed K w:=by
 intro inv hx a hK
 obtain⟨hs,hn,ht⟩:=ED.spec hh
 simp only [Bool.and_eq_true]at hc
 have hin:i<n:=by have h2:=hc.1.1;simp [Nat.blt]at h2;omega
 have hr:i∈Region.ready .any ops listed:=by simpa using hc.2
 refine Ct.first hi hin hn (Region.noSelect_spec hs) ht (fun c a w h=>h.elim) f listed a w inv (Region.free_spec hi hc.1.2) hr ?_ hx (k (inv.set hr hin) hx _ (hK.put (Mf h0 (by simp))))
 exact .inr ⟨NS h0 hK,rfl⟩
theorem nK{o:Oper}{R:Value->World->Prop}(i:Nat)(hi:ops[i]? =some o)(hin:Nat.blt i n=true)(hr:Region.ready .any ops listed=[i])(h0:Ll N ops K o= .yes)
 (h:JY P N K o w R) (k:∀v w',R v w'->AS w0 w'∧HL P N ops n (noPan Q) w0 f (listed.setIfInBounds i true) (Do K o.dst v) w'):HL P N ops n (noPan Q) w0 (f+1) listed K w:=by
 intro inv hx a hK
 have hin':i<n:=by have h2:=hin;simp [Nat.blt]at h2;omega
 have hri:i∈Region.ready .any ops listed:=by rw [hr];simp
 refine⟨fun h0=>(by rw [h0]at hr;cases hr),fun j hj=>?_⟩
 rw [hr]at hj
 have hji:j=i:=by simpa using hj
 subst hji
 unfold wpOp
 simp only [hi]
 rw [if_pos (Fa h0 hK)]
 refine .inl (h a hK _ _ fun u w' hR=>?_)
 obtain⟨h1,h2⟩:=k u w' hR
 exact⟨fun _=>h1,h2 (inv.set hri hin') h1 _ (hK.put (Mf h0 (by simp)))⟩
theorem oP{o:Oper}{R:Value->World->Prop}(i:Nat)(hi:ops[i]? =some o)(hin:Nat.blt i n=true)(hr:(Region.ready .any ops listed).contains i=true)(h0:Ll N ops K o= .yes)
 (h:JY P N K o w R) (k:∀v w',R v w'->AS w0 w'∧HL P N ops n (noPan Q) w0 f (listed.setIfInBounds i true) (Do K o.dst v) w'):HB P N ops n (noPan Q) w0 f listed K w i:=by
 intro inv hx a hK
 have hin':i<n:=by have h2:=hin;simp [Nat.blt]at h2;omega
 have hri:i∈Region.ready .any ops listed:=by simpa using hr
 unfold wpOp
 simp only [hi]
 rw [if_pos (Fa h0 hK)]
 refine .inl (h a hK _ _ fun u w' hR=>?_)
 obtain⟨h1,h2⟩:=k u w' hR
 exact⟨fun _=>h1,h2 (inv.set hri hin') h1 _ (hK.put (Mf h0 (by simp)))⟩
theorem WC.heldD{id:Nat}{l:List Oper}(n:Nat)(hm:P.follows .mixedOrders=true)(hh:ED l.toArray n=true)
 (h:∀w',AS w w'->ED l.toArray n=true->HL P N l.toArray n (noPan Q) w' l.length (Array.replicate l.length false) K w'):WC P N (.region id l.toArray true) Q K w:=WC.held n hm fun w' hx=>h w' hx hh
def YC(ops:Array Oper)(n:Nat):List Nat->Array Bool->Bool
 |[],_=>true
 |i::is,listed=>Nat.blt i n&&Region.free .any ops listed i&&(Region.ready .any ops listed).contains i&&YC ops n is (listed.setIfInBounds i true)
end
section
variable (P:Program) (N:Nat) (ops:Array Oper) (n:Nat) (Q:Exit -> Act -> World -> Prop) (w0:World)
def VE:List Nat->Nat->Array Bool->KL->World->Prop
 |[]=>fun f listed K w=>HL P N ops n (noPan Q) w0 f listed K w
 |i::is=>fun f listed K w=>match f with
  |0=>False
  |f+1=>match ops[i]? with
   |none=>False
   |some o=>match Ll N ops K o with
    | .yes=>match yq K o.op with
     |some v=>VE is f (listed.setIfInBounds i true) (Do K o.dst v) w
     |none=>False
    | .skip=>VE is f (listed.setIfInBounds i true) (Do K o.dst undef) w
    | .no=>False
end
section
variable {P:Program} {N:Nat} {ops:Array Oper} {Q:Exit -> Act -> World -> Prop} {n:Nat} {w w0:World}
theorem Hr(hh:ED ops n=true):∀(is:List Nat) {f:Nat} {listed:Array Bool} {K:KL},YC ops n is listed=true->VE P N ops n Q w0 is f listed K w->HL P N ops n (noPan Q) w0 f listed K w
 |[],_,_,_,_,h=>h
 |i::is,0,listed,K,_,h=>h.elim
 |i::is,f+1,listed,K,hc,h=>by
  simp only [YC,Bool.and_eq_true]at hc
  have hc':(Nat.blt i n&&Region.free .any ops listed i&&(Region.ready .any ops listed).contains i)=true:=by simp only [Bool.and_eq_true];exact hc.1
  simp only [VE]at h
  split at h
  ·exact h.elim
  ·rename_i o hi
   split at h
   ·rename_i hg
    split at h
    ·rename_i v hv;exact iU i hh hi hc' hg (Pj hv) (Hr hh is hc.2 h)
    ·exact h.elim
   ·rename_i hg;exact nH i hh hi hc' hg (Hr hh is hc.2 h)
   ·exact h.elim
end
end Go.Eng
namespace Go.Eng
open Go Go.RowKit
/-! ## Structs of plain fields, compared -/
def XB(u v:Value):Option Bool:=match u with
 | .int k a=>match v with
  | .int k' b=>bif decide (k=k')then some (a==b)else none
  |_=>none
 | .bool a=>match v with
  | .bool b=>some (a==b)
  |_=>none
 | .string a=>match v with
  | .string b=>some (a.toList==b.toList)
  |_=>none
 |_=>none
def Nq:List Value->List Value->Option Bool
 |[],[]=>some true
 |u::us,v::vs=>match us with
  |[]=>match vs with
   |[]=>XB u v
   |_=>none
  |_::_=>match XB u v with
   |some r=>match Nq us vs with
    |some q=>some (r&&q)
    |none=>none
   |none=>none
 |_,_=>none
def eQ(P:Program):List Field->Nat->Bool
 |[],_=>true
 |f::fs,i=>f.name != "_" &&Nat.beq f.offset i&&(match P.underlying f.type with
  |some (.int _)=>true
  |some .bool=>true
  |some .string=>true
  |_=>false)&&eQ P fs (i+1)
def WJ(P:Program)(t:Nat)(n:Nat):Bool:=match P.underlying t with
 |some (.struct fs)=>eQ P fs.toList 0&&Nat.beq fs.size n&& !P.stoodInHeld t&& !P.eqGuardType P.depth t
 |_=>false
section
variable {P:Program} {N:Nat} {K:KL} {o:Oper} {w:World}
theorem WA{d t:Nat}{u v:Value}{r:Bool}(h:XB u v=some r)(ht:(match P.underlying t with
 |some (.int _)=>true
 |some .bool=>true
 |some .string=>true
 |_=>false)=true) (hty:∀k,P.underlying t=some (.int k)->∃k' a,u= .int k' a) (htb:P.underlying t=some .bool->∃a,u= .bool a) (hts:P.underlying t=some .string->∃a,u= .string a):
 (Op.equalIn (d+1) t u v).run P w= .ok r w:=by
 split at ht
 ·rename_i k hu
  obtain⟨k',a,rfl⟩:=hty k hu
  unfold XB at h
  cases v<;>simp only [reduceCtorEq]at h
  rename_i k2 b
  by_cases hk:k'=k2
  ·subst hk
   rw [decide_eq_true rfl,cond_true]at h
   obtain rfl:=Option.some.inj h
   exact run_equalIn_int w d t k' k a b hu
  ·rw [decide_eq_false hk]at h;cases h
 ·rename_i hu
  obtain⟨a,rfl⟩:=htb hu
  unfold XB at h
  cases v<;>simp only [reduceCtorEq]at h
  obtain rfl:=Option.some.inj h
  exact run_equalIn_bool' w d t _ _ hu
 ·rename_i hu
  obtain⟨a,rfl⟩:=hts hu
  unfold XB at h
  cases v<;>simp only [reduceCtorEq]at h
  obtain rfl:=Option.some.inj h
  exact run_equalIn_string w d t _ _ hu
 ·cases ht
def Zf(P:Program):List Field->List Value->Bool
 |[],[]=>true
 |f::fs,u::us=>(match P.underlying f.type with
  |some (.int _)=>match u with
   | .int _ _=>true
   |_=>false
  |some .bool=>match u with
   | .bool _=>true
   |_=>false
  |some .string=>match u with
   | .string _=>true
   |_=>false
  |_=>false)&&Zf P fs us
 |_,_=>false
theorem JG{d:Nat}{xs ys:Array Value}:∀(fs:List Field) (i:Nat) (us vs:List Value) (r:Bool),eQ P fs i=true->Zf P fs us=true->xs.toList.drop i=us->ys.toList.drop i=vs->Nq us vs=some r->(Op.eqFields (d+1) xs ys fs).run P w= .ok r w
 |[],i,us,vs,r,_,h2,_,_,h5=>by
  cases us with
  |nil=>
   cases vs with
   |nil=>simp [Nq]at h5;subst h5;simp [Op.eqFields]
   |cons _ _=>simp [Nq]at h5
  |cons _ _=>simp [Zf]at h2
 |f::fs,i,us,vs,r,h1,h2,h3,h4,h5=>by
  cases us with
  |nil=>simp [Zf]at h2
  |cons u us=>
   cases vs with
   |nil=>cases us<;>simp [Nq]at h5
   |cons v vs=>
    simp only [eQ,Bool.and_eq_true,bne_iff_ne,ne_eq]at h1
    obtain⟨⟨⟨hn,ho⟩,ht⟩,h1⟩:=h1
    have ho:f.offset=i:=Nat.eq_of_beq_eq_true ho
    simp only [Zf,Bool.and_eq_true]at h2
    obtain⟨hc,h2⟩:=h2
    have hxu:xs[f.offset]? =some u:=by
     rw [ho,←Array.getElem?_toList]
     have:=congrArg (fun l:List Value=>l[0]?) h3
     simpa using this
    have hyv:ys[f.offset]? =some v:=by
     rw [ho,←Array.getElem?_toList]
     have:=congrArg (fun l:List Value=>l[0]?) h4
     simpa using this
    have ha:DN P f.type=some false:=by
     unfold DN
     split at ht<;>first|(rename_i hu;rw [hu])|cases ht
    have e3:xs.toList.drop (i+1)=us:=by
     rw [←List.drop_drop,h3];rfl
    have e4:ys.toList.drop (i+1)=vs:=by
     rw [←List.drop_drop,h4];rfl
    have key:∀r0,XB u v=some r0->(Op.equalIn (d+1) f.type u v).run P w= .ok r0 w:=by
     intro r0 hr0
     refine WA hr0 ht ?_ ?_ ?_
     ·intro k hu;rw [hu]at hc;cases u<;>simp at hc;exact⟨_,_,rfl⟩
     ·intro hu;rw [hu]at hc;cases u<;>simp at hc;exact⟨_,rfl⟩
     ·intro hu;rw [hu]at hc;cases u<;>simp at hc;exact⟨_,rfl⟩
    have step:∀r0 q,XB u v=some r0->(Op.eqFields (d+1) xs ys fs).run P w= .ok q w->(Op.eqFields (d+1) xs ys (f::fs)).run P w= .ok (r0&&q) w:=by
     intro r0 q hr0 hq
     have hk:=key r0 hr0
     simp only [Op.eqFields]
     rw [if_pos hn]
     simp only [Sem.run_bind,part,KJ ha,Result.andThen_ok,Bool.false_eq_true,if_false,hxu,hyv,Sem.run_pure,hk]
     cases r0
     ·simp
     ·simp [hq]
    cases us with
    |nil=>
     cases vs with
     |nil=>
      simp only [Nq]at h5
      have:=step r true h5 (JG fs (i+1) [] [] true h1 h2 e3 e4 rfl)
      simpa using this
     |cons _ _=>simp [Nq]at h5
    |cons u2 us2=>
     simp only [Nq]at h5
     split at h5
     ·rename_i r0 hr0
      split at h5
      ·rename_i q hq
       obtain rfl:=Option.some.inj h5
       exact step r0 q hr0 (JG fs (i+1) _ _ q h1 h2 e3 e4 hq)
      ·cases h5
     ·cases h5
def Vw(P:Program)(t:Nat)(us:List Value):Bool:=match P.underlying t with
 |some (.struct fs)=>Zf P fs.toList us
 |_=>false
theorem WG{t n:Nat}{us vs:List Value}{r:Bool}(hB:WJ P t n=true)(hC:Vw P t us=true)(h:Nq us vs=some r):
 (Op.equalIn 10000 t (.agg us.toArray) (.agg vs.toArray)).run P w= .ok r w∧P.eqGuardType P.depth t=false:=by
 unfold WJ at hB
 unfold Vw at hC
 split at hB
 ·rename_i fs hu
  rw [hu]at hC
  simp only [Bool.and_eq_true,Bool.not_eq_true']at hB
  obtain⟨⟨⟨h1,h2⟩,h3⟩,h4⟩:=hB
  have hf:P.fieldsOf t=fs:=by unfold Program.fieldsOf;rw [hu]
  refine⟨?_,h4⟩
  rw [show(10000:Nat)=9998+1+1 from rfl,run_equalIn_struct w _ t _ _ (by rw [hf];exact hu) h3,hf]
  exact JG fs.toList 0 us vs r h1 hC (by simp) (by simp) h
 ·cases hB
theorem eD{t x y u n us vs r}(ho:o.op= .binOp .neq t x y u)(hx:CK K x=some (.agg (List.toArray us)))(hy:CK K y=some (.agg (List.toArray vs)))(hB:WJ P t n=true)(hC:Vw P t us=true)(h:Nq us vs=some r):EH P N K o w (.bool (!r)):=by
 intro a hK w' _
 obtain⟨h1,h2⟩:=WG (w:=w') hB hC h
 have h3:=run_eqGuard_agg (P:=P) w' .neq t x y us.toArray vs.toArray h2
 have h4:(binOp .neq t (.agg us.toArray) (.agg vs.toArray)).run P w'= .ok (.bool (!r)) w':=by rw [run_neq_struct,h1];rfl
 simp only [execOp,ho,hK.ev hx,hK.ev hy,Sem.run_bind,h3,Result.andThen_ok,h4,Sem.run_pure]
end
end Go.Eng
namespace Go.Eng
open Go Go.RowKit
/-! ## Slices of slices of the call's own, each apart from the others -/
theorem AC.slp{α:Type}{c:Co α}{w:World}{B:Nat}{S S':Nat->Prop}{e:TypeId}{xs:List α}{v:Value}[Cx c](h:AC c w B S e xs v)(hb:∀g,v.ownBlock=some g->S' g):AE c w S' xs v:=by
 obtain⟨cs,h0,h3⟩:=h
 have h1:=h0
 obtain⟨hl,⟨rfl,hn⟩|⟨g,cap,cur,rfl,_,hh,h5,h6,h7,h8⟩⟩:=h1
 ·have:xs=[]:=List.eq_nil_of_length_eq_zero hn
  subst this;exact AE.nil _ _ _
 ·refine⟨some ⟨g,0,none⟩,cap,rfl,⟨h5,fun h=>by cases h⟩,by simpa [maxLen] using h6,fun hpos=>⟨g,0,rfl,hb g rfl,fun i x hx=>⟨_,Cx.any (h3 i x hx),fun j u hu=>?_⟩⟩⟩
  have hjn:j<c.n:=by
   have:=(List.getElem?_eq_some_iff.1 hu).1
   simp [BM]at this;omega
  rw [Bn hjn]at hu
  have:=h0.cells (g:=g) rfl _ _ hu
  rw [Ch]at this
  rw [show 0+i*c.n+j=0+(i*c.n+j) by omega];exact⟨this,by simp [World.frozen?,hh]⟩
def own2{α:Type}(c:Co α)(w:World)(B hi:Nat)(e1 e2:TypeId)(xss:List (List α))(v:Value)(vs:List Value):Prop:=
 w.ownsRow B e1 1 v xss.length vs∧(∀(i:Nat) (xs:List α) (u:Value),xss[i]? =some xs->vs[i]? =some u->AC c w B (Iv 0 0) e2 xs u∧Bd u B hi∧No v u)∧(∀(i j:Nat) (u u':Value),i≠j->vs[i]? =some u->vs[j]? =some u'->No u u')
def Uf{α:Type}(c:Co α)(w:World)(B hi:Nat)(e1 e2:TypeId)(xss:List (List α))(v:Value)(vs:List Value)(k:Nat)(u0:Value):Prop:=
 w.ownsRow B e1 1 v xss.length vs∧(∀(i:Nat) (xs:List α) (u:Value),i≠k->xss[i]? =some xs->vs[i]? =some u->AC c w B (Iv 0 0) e2 xs u∧Bd u B hi∧No v u∧No u0 u)∧(∀(i j:Nat) (u u':Value),i≠k->j≠k->i≠j->vs[i]? =some u->vs[j]? =some u'->No u u')∧No v u0∧Bd u0 B hi
theorem ownsRow.keep{w w':World}{B n:Nat}{e:TypeId}{v:Value}{m:Nat}{cs:List Value}(h:w.ownsRow B e n v m cs)(hg:∀g,v.ownBlock=some g->w'.heap[g]? =w.heap[g]?):w'.ownsRow B e n v m cs:=by
 obtain⟨h1,h2⟩:=h
 refine⟨h1,?_⟩
 rcases h2 with h2|⟨g,cap,cur,rfl,hb,hh,rest⟩
 ·exact .inl h2
 ·exact .inr ⟨g,cap,cur,rfl,hb,(hg g rfl).trans hh,rest⟩
section
variable {α:Type} {c:Co α} [Cx c] {w w':World} {B hi:Nat} {e1 e2:TypeId} {xss:List (List α)} {v:Value} {vs:List Value}
theorem own2.keep(h:own2 c w B hi e1 e2 xss v vs)(h1:∀g,v.ownBlock=some g->w'.heap[g]? =w.heap[g]?)(h2:∀k,B<=k->k<hi->w'.heap[k]? =w.heap[k]?):own2 c w' B hi e1 e2 xss v vs:=by
 obtain⟨a,b,d⟩:=h
 refine⟨ownsRow.keep a h1,fun i xs u hx hu=>?_,d⟩
 obtain⟨p,q,r⟩:=b i xs u hx hu
 exact⟨p.keep (fun g hg=>h2 g (q g hg).1 (q g hg).2) (fun _ h=>h) (fun k h=>absurd h.2 (Nat.not_lt_zero k)),q,r⟩
theorem own2.blk(h:own2 c w B hi e1 e2 xss v vs):Bd v B w.heap.size:=h.1.lt
theorem own2.ext(h:own2 c w B hi e1 e2 xss v vs)(he:AS w w')(hle:hi<=w.heap.size):own2 c w' B hi e1 e2 xss v vs:=
 h.keep (fun g hg=>he.block g (h.blk g hg).2) (fun k _ h=>he.block k (by omega))
theorem own2.upd{b:Nat}(h:own2 c w B hi e1 e2 xss v vs)(hu:GU b w w')(hne:Nb v b)(hb:b<B∨hi<=b:=by omega):own2 c w' B hi e1 e2 xss v vs:=
 h.keep (fun g hg=>hu.block g (hne g hg)) (fun k h1 h2=>hu.block k (by omega))
theorem own2.wide{hi':Nat}(h:own2 c w B hi e1 e2 xss v vs)(hle:hi<=hi':=by omega):own2 c w B hi' e1 e2 xss v vs:=by
 obtain⟨a,b,d⟩:=h
 refine⟨a,fun i xs u hx hu=>?_,d⟩
 obtain⟨p,q,r⟩:=b i xs u hx hu
 exact⟨p,fun g hg=>by have:=q g hg;omega,r⟩
theorem own2.but{p:Nat->Prop}(h:own2 c w B hi e1 e2 xss v vs)(hb:Af p w w')(hne:∀k,p k->∀g,v.ownBlock=some g->k≠g)(hle:hi<=w.heap.size)(hs:∀k,p k->k<B∨hi<=k):own2 c w' B hi e1 e2 xss v vs:=
 h.keep (fun g hg=>hb.block g (h.blk g hg).2 (fun e=>hne g e g hg rfl)) (fun k h1 h2=>hb.block k (by omega) (fun e=>by have:=hs k e;omega))
theorem AO.own2{t t':Value}(hg:AO w w' t t')(h:own2 c w B hi e1 e2 xss v vs)(hne:No t v)(hle:hi<=w.heap.size)(hs:∀g,t.ownBlock=some g->g<B∨hi<=g):own2 c w' B hi e1 e2 xss v vs:=
 h.keep (fun g hv=>hg.1.block g (h.blk g hv).2 (fun e=>hne g g e.symm hv rfl)) (fun k h1 h2=>hg.1.block k (by omega) (fun e=>by have:=hs k e.symm;omega))
theorem XM{cs:List Value}{i:Nat}{u:Value}(h:cs[i]? =some u):BM cs 1 i=[u]:=by
 apply List.ext_getElem?
 intro q
 by_cases hq:q<1
 ·obtain rfl:q=0:=by omega
  rw [Bn hq];simpa using h
 ·rw [List.getElem?_eq_none (by simp [BM];omega),List.getElem?_eq_none (by simp;omega)]
theorem own2.r(h:own2 c w B hi e1 e2 xss v vs):AC (FQ c) w B (SX B hi v) e1 xss v:=by
 obtain⟨a,b,d⟩:=h
 refine⟨vs,a,fun i x hx=>?_⟩
 have hi':i<vs.length:=by
  have:=(List.getElem?_eq_some_iff.1 hx).1
  rw [a.1];omega
 obtain⟨p,q,r⟩:=b i x _ hx (List.getElem?_eq_getElem hi')
 have e:BM vs (FQ c).n i=[vs[i]]:=XM (List.getElem?_eq_getElem hi')
 rw [e]
 exact⟨_,rfl,p.slp fun g hg=>⟨(q g hg).1,(q g hg).2,fun e=>r g g e hg rfl⟩⟩
theorem own2.nil:own2 c w B hi e1 e2 ([]:List (List α)) (.slice none 0 0) []:=⟨World.ownsRow_nil w B e1 1,fun i xs u h=>by simp at h,fun i j u u' _ h=>by simp at h⟩
theorem own2.sub{m:Int}{xs:List α}{u:Value}(h:own2 c w B hi e1 e2 xss v vs)(hy:AL xss m=some xs)(hu:vs[m.toNat]? =some u):AC c w B (Iv 0 0) e2 xs u∧Bd u B hi∧No v u:=h.2.1 _ _ _ (EZ hy).2.2 hu
theorem own2.at{m:Int}{xs:List α}{g:Nat}{us:List Value}(h:own2 c w B hi e1 e2 xss v vs)(hy:AL xss m=some xs)(hg:v.ownBlock=some g)(hl:us.length=1)(hcl:AP w g (0+m.toNat*(FQ c).n) us):∃u,us=[u]∧vs[m.toNat]? =some u:=by
 obtain⟨u,rfl⟩:=List.length_eq_one_iff.1 hl
 refine⟨u,rfl,?_⟩
 have hlt:m.toNat<vs.length:=by
  have:=(List.getElem?_eq_some_iff.1 (EZ hy).2.2).1
  rw [h.1.1];omega
 have h1:=h.1.cells hg m.toNat _ (List.getElem?_eq_getElem hlt)
 have h2:=(hcl 0 u rfl).1
 rw [Ch]at h1
 have e:0+m.toNat*(FQ c).n+0=0+m.toNat:=by show 0+m.toNat*1+0=0+m.toNat;omega
 rw [e,h1]at h2
 rw [List.getElem?_eq_getElem hlt];exact h2
theorem own2.grew{m:Nat}{u u':Value}(h:own2 c w B hi e1 e2 xss v vs)(hu:vs[m]? =some u)(hbu:Bd u B hi)(hvu:No v u)(hg:AO w w' u u')(hle:hi<=w.heap.size)(hB:B<=w.heap.size)(hlt:∀g,u'.ownBlock=some g->g<w'.heap.size):Uf c w' B w'.heap.size e1 e2 xss v vs m u':=by
 obtain⟨a,b,d⟩:=h
 have hsz:=hg.1.size
 have hav:∀g,v.ownBlock=some g->w'.heap[g]? =w.heap[g]?:=fun g hv=>hg.1.block g (a.lt g hv).2 (fun e=>hvu g g hv e.symm rfl)
 refine⟨ownsRow.keep a hav,fun i xs t hi' hx ht=>?_,fun i j t t' _ _ hij ht ht'=>d i j t t' hij ht ht',?_,?_⟩
 ·obtain⟨p,q,r⟩:=b i xs t hx ht
  have hn:No u t:=d m i u t (fun e=>hi' e.symm) hu ht
  refine⟨p.keep (fun g hg2=>hg.1.block g (by have:=q g hg2;omega) (fun e=>hn g g e.symm hg2 rfl)) (fun _ h=>h) (fun k h=>absurd h.2 (Nat.not_lt_zero k)),fun g hg2=>by have:=q g hg2;omega,r,fun g q2 hg2 hq2=>?_⟩
  rcases hg.2 g hg2 with h1|h1
  ·exact hn g q2 h1 hq2
  ·have:=q q2 hq2;omega
 ·intro g q2 hg2 hq2
  rcases hg.2 q2 hq2 with h1|h1
  ·exact hvu g q2 hg2 h1
  ·have:=a.lt g hg2;omega
 ·intro g hg2
  have:=hlt g hg2
  rcases hg.2 g hg2 with h1|h1
  ·have:=hbu g h1;omega
  ·omega
end
section
variable {P:Program} {N:Nat} {α:Type} {c:Co α} [Cx c] {w:World} {B hi:Nat} {e1 e2:TypeId} {xss:List (List α)} {v:Value} {vs:List Value} {o:Oper} {K:KL}
theorem kS{t g m off:Nat}{u:Value}{zs:List α}(h:aV K o.op=some (t,g,off,u))(hoff:off=0+m*(FQ c).n)(hg:v.ownBlock=some g)(hn:BX P t=some 1)(hh:Uf c w B hi e1 e2 xss v vs m u)(ho:AC c w B (Iv 0 0) e2 zs u)(hm:m<xss.length):
 JY P N K o w (fun _ w'=>GU g w w'∧own2 c w' B hi e1 e2 (xss.set m zs) v (vs.set m u)):=by
 obtain⟨x,y,hop,hx,hy⟩:=Qi h
 obtain⟨a,b,d,hv,hbu⟩:=hh
 have hu1:u.cells= #[u]:=ho.cells
 have hu2:u.oneCell'=true:=ho.one
 have a':=a
 obtain⟨hl,⟨rfl,hn0⟩|⟨g',cap,cur,rfl,hb,hhp,h5,h6,h7,h8⟩⟩:=a'
 ·omega
 simp [Value.ownBlock]at hg
 subst hg
 obtain⟨ti,hi1,hsz⟩:=Option.map_eq_some_iff.1 hn
 have hoff':off=m:=by rw [hoff];show 0+m*1=m;omega
 subst hoff'
 have hlen:off<cur.size:=by rw [h7];omega
 have hst:=run_storeCells_at P g' off e1 [u] 0 cur w hhp (by simp;omega) (by simpa using hu2)
 simp only [Nat.add_zero]at hst
 intro ac hK Kt Q hk
 have hr:(execOp ac.eval o).run P w= .ok .skip (w.setRow g' (cur.toList.set off u).toArray):=by
  have e:List.take off cur.toList++[u]++List.drop (off+1) cur.toList=cur.toList.set off u:=by
   rw [List.set_eq_take_append_cons_drop,if_pos (by simpa using hlen)];simp
  simp [execOp,hop,hK.ev hx,hK.ev hy,Instr.storeAt,Instr.sureAddr,storeVar,Sem.run_bind,sizeOf,typeInfo,hi1,hsz,hu1]at hst ⊢
  rw [hst]
  simp at e
  simp [e]
 unfold Oper.wp
 rw [hr]
 have hU:=GU.setRow w g' (cur.toList.set off u).toArray
 refine hk _ _ ⟨hU,?_,?_,?_⟩
 ·refine⟨by rw [List.length_set,List.length_set];exact hl,.inr ⟨g',cap,_,by simp,hb,setRow_heap w g' cur _ e1 _ hhp,by simpa using h5,h6,by simpa using h7,?_⟩⟩
  rw [List.length_set]
  simp only [List.toList_toArray,Nat.mul_one]
  rw [List.take_set]
  congr 1
  simpa using h8
 ·intro i xs t hx2 ht
  rcases Me hx2 with ⟨rfl,rfl⟩|⟨hne,hx3⟩
  ·have:t=u:=by
    rw [List.getElem?_set_self (by rw [hl];omega)]at ht
    exact(Option.some.inj ht).symm
   subst this
   refine⟨ho.keep (fun q hq=>setRow_other _ _ _ _ (fun e=>?_)) (fun _ h=>h) (fun k h=>absurd h.2 (Nat.not_lt_zero k)),hbu,hv⟩
   subst e
   exact hv q q rfl hq rfl
  ·rw [List.getElem?_set_ne hne]at ht
   obtain⟨p,q,r,s⟩:=b i xs t (fun e=>hne e.symm) hx3 ht
   exact⟨p.keep (fun g2 hg2=>setRow_other _ _ _ _ (fun e=>by subst e;exact r g2 g2 rfl hg2 rfl)) (fun _ h=>h) (fun k h=>absurd h.2 (Nat.not_lt_zero k)),q,r⟩
 ·intro i j t t' hij ht ht'
  have get:∀i t,(vs.set off u)[i]? =some t->(i=off∧t=u)∨(i≠off∧vs[i]? =some t):=fun i t h=>by
   rcases Me h with ⟨e,e2⟩|⟨e,e2⟩
   ·exact .inl ⟨e.symm,e2⟩
   ·exact .inr ⟨fun q=>e q.symm,e2⟩
  have hx:∀i t,i≠off->vs[i]? =some t->∃xs,xss[i]? =some xs:=fun i t _ h=>by
   have:=(List.getElem?_eq_some_iff.1 h).1
   exact⟨_,List.getElem?_eq_getElem (by rw [hl]at this;omega)⟩
  rcases get i t ht with ⟨e,rfl⟩|⟨e,h1⟩<;>rcases get j t' ht' with ⟨e',rfl⟩|⟨e',h2⟩
  ·exact absurd (e.trans e'.symm) hij
  ·obtain⟨xs,hxs⟩:=hx j t' e' h2
   exact(b j xs t' e' hxs h2).2.2.2
  ·obtain⟨xs,hxs⟩:=hx i t e h1
   exact(b i xs t e hxs h1).2.2.2.symm
  ·exact d i j t t' e e' hij h1 h2
theorem RU{ei:TypeId}{t l c2 by' m m' k kd kd'}(ho:o.op= .makeSlice t l c2)(hu:P.underlying t=some (.slice e1))(hi:DL P e1=some ([.slice none 0 0],1,by'))(hl:CK K l=some (.int kd m))(hc:CK K c2=some (.int kd' m'))(hmm:m'=m)
 (hk:MK m by'=some k):
 JY P N K o w (fun u w'=>∃g,u= .slice (some ⟨g,0,none⟩) k k∧g=w.heap.size∧w'.heap.size=w.heap.size+1∧AS w w'∧own2 c w' g (g+1) e1 ei (List.replicate k []) u (List.replicate k (.slice none 0 0))):=by
 subst hmm
 unfold DL at hi
 obtain⟨i,hi1,hi2⟩:=Option.bind_eq_some_iff.1 hi
 obtain⟨zv,hz1,hz2⟩:=Option.map_eq_some_iff.1 hi2
 simp only [Prod.mk.injEq]at hz2
 obtain⟨e3,e4,e5⟩:=hz2
 unfold MK at hk
 split at hk
 ·rename_i hm
  injection hk with hk
  have hr:=run_make (P:=P) w t e1 i zv hu hi1 hz1 kd kd' m' m' hm.1 (Int.le_refl _) (by rw [e5,Int.mul_comm];exact hm.2.1) hm.2.2
  intro a hK Kt Q hkk
  have hr2:(execOp a.eval o).run P w= .ok (.value (.slice (some ⟨w.heap.size,0,none⟩) m'.toNat m'.toNat)) (w.alloc (.cells (madeCells zv.cells (m'.toNat*i.size)) e1)):=by
   simp [execOp,ho,hK.ev hl,hK.ev hc,hr]
  unfold Oper.wp
  rw [hr2]
  have hzc:zv.cells= #[.slice none 0 0]:=by rw [←Array.toList_inj,e3]
  have hmc:(madeCells zv.cells (m'.toNat*i.size)).toList=List.replicate k (.slice none 0 0):=by
   rw [hzc,e4,hk,Nat.mul_one]
   apply List.ext_getElem
   ·simp [size_madeCells]
   ·intro j h1 h2
    simp [madeCells,Nat.mod_one]
  refine hkk _ _ ⟨w.heap.size,by rw [hk],rfl,by simp,AS.alloc _ _,⟨by simp,.inr ⟨w.heap.size,k,_,by rw [List.length_replicate,hk],Nat.le_refl _,heap_alloc_new w _,by simp,by simp only [maxLen];omega,?_,?_⟩⟩,?_,?_⟩
  ·rw [←Array.length_toList,hmc];simp
  ·rw [hmc];simp
  ·intro i xs u hx hu2
   have hxs:xs=[]:=by
    rw [List.getElem?_replicate]at hx;split at hx
    ·exact(Option.some.inj hx).symm
    ·cases hx
   have hus:u= .slice none 0 0:=by
    rw [List.getElem?_replicate]at hu2;split at hu2
    ·exact(Option.some.inj hu2).symm
    ·cases hu2
   subst hxs hus
   exact⟨AC.nil _ _ _ _ _,(fun q h=>by cases h),(fun g q _ h=>by cases h)⟩
  ·intro i j u u' _ hu2 _ g q hg
   have hus:u= .slice none 0 0:=by
    rw [List.getElem?_replicate]at hu2;split at hu2
    ·exact(Option.some.inj hu2).symm
    ·cases hu2
   subst hus;cases hg
 ·cases hk
end
end Go.Eng
namespace Go.Eng
open Go Go.RowKit
theorem own2.at1{α:Type}{c:Co α}[Cx c]{w:World}{B hi:Nat}{e1 e2:TypeId}{xss:List (List α)}{v:Value}{vs:List Value}{m:Int}{xs:List α}{g:Nat}{u:Value}(h:own2 c w B hi e1 e2 xss v vs)(hy:AL xss m=some xs)(hg:v.ownBlock=some g)
 (hcl:AP w g (0+m.toNat*(FQ c).n) [u]):vs[m.toNat]? =some u:=by
 obtain⟨u',h1,h2⟩:=h.at hy hg rfl hcl
 simp at h1;rw [h1];exact h2
theorem Tn{α:Type}{xs:List α}{m:Int}{y:α}(h:AL xs m=some y):m.toNat<xs.length:=by
 obtain⟨h0,h1,_⟩:=EZ h;omega
end Go.Eng
namespace Go.Eng
open Go Go.RowKit
theorem mT{P:Program}{N:Nat}{K:KL}{o:Oper}{α:Type}{c:Co α}{w w0:World}{B hi:Nat}{e1 e2:TypeId}{xss:List (List α)}{v:Value}{vs:List Value}{n:Nat}{u0:Value}{xs:List α}{t:Nat}{k:IntKind}{m:Int}(h:aR K o.op=some (t,v,k,m))(hu:P.underlying t=some (.slice e1))(hc:BX P e1=some 1)(hh:Uf c w B hi e1 e2 xss v vs n u0)(hg:AL xss m=some xs):
 YE P N K o w0 (fun u=>∃g,u= .pointer (some ⟨g,0+m.toNat*(FQ c).n,none⟩)∧v.ownBlock=some g):=by
 obtain⟨x,i,ho,hx,hi'⟩:=QJ h
 obtain⟨g0,g1,g2⟩:=EZ hg
 obtain⟨⟨hl,⟨rfl,hn⟩|⟨g,cap,cur,rfl,_⟩⟩,_⟩:=hh
 ·omega
 ·exact⟨_,El (sz:=(FQ c).n) ho hu hc hx hi' g0 g1,g,rfl,rfl⟩
end Go.Eng
namespace Go.Eng
/-! ## Pointers that may be nil -/
def RK{α β:Type}(o:Option α)(a:β)(f:α->β):β:=match o with
 |none=>a
 |some x=>f x
theorem aH{α β:Type}{o:Option α}{A:Option β}{f:α->Option β}{r:β}(h:o=none)(hF:RK o A f=some r):A=some r:=by subst h;exact hF
theorem bJ{α β:Type}{o:Option α}{x:α}{A:Option β}{f:α->Option β}{r:β}(h:o=some x)(hF:RK o A f=some r):f x=some r:=by subst h;exact hF
def Yz{α:Type}(o:Option α)(p:Prop)(f:α->Prop):Prop:=match o with
 |none=>p
 |some x=>f x
theorem bV{α:Type}{o:Option α}{p:Prop}{f:α->Prop}(h:o=none)(hF:Yz o p f):p:=by subst h;exact hF
theorem aP{α:Type}{o:Option α}{x:α}{p:Prop}{f:α->Prop}(h:o=some x)(hF:Yz o p f):f x:=by subst h;exact hF
end Go.Eng
namespace Go.Eng
theorem Pw{B hi:Nat}{v:Go.Value}{Q:Nat->Prop}(h:∀k,SX B hi v k->Q k):∀k,SX B hi v k->Q k:=h
end Go.Eng
namespace Go.Eng
open Go Go.RowKit
/-! ## Slices of which nothing is told -/
def NP:Co Unit where
 n:=1
 rep:=fun _ _ _ vs=>∃a n k,vs=[.slice a n k]
 len:=fun⟨_,_,_,e⟩=>by rw [e];rfl
 one:=fun⟨_,_,_,e⟩=>by rw [e];rfl
 mono:=fun h _ _=>h
instance:Cx NP:=⟨fun h=>h⟩
theorem AE.fog{α:Type}{c:Co α}{w:World}{S:Nat->Prop}{xs:List (List α)}{v:Value}(h:AE (FQ c) w S xs v):AE NP w S (xs.map fun _=>()) v:=by
 obtain⟨a,cap,e,h1,h2,h3⟩:=h
 refine⟨a,cap,by rw [List.length_map];exact e,by rw [List.length_map];exact h1,h2,fun hl=>?_⟩
 rw [List.length_map]at hl
 obtain⟨b,off,h4,h5,h6⟩:=h3 hl
 refine⟨b,off,h4,h5,fun i x hx=>?_⟩
 rw [List.getElem?_map]at hx
 obtain⟨y,hy,_⟩:=Option.map_eq_some_iff.1 hx
 obtain⟨us,⟨v',e',a',cap',e2,_⟩,h8⟩:=h6 i y hy
 exact⟨us,⟨a',y.length,cap',by rw [e',e2]⟩,h8⟩
end Go.Eng
namespace Go
@[reducible] def Value.i (x:Int):Value:=.int .i64 x
end Go
namespace Go.Eng
open Go Go.RowKit
/-! ## Cells whose numbers may turn: what is written into them is not told -/
inductive NZ:Value->Value->Prop
 |refl (u:Value):NZ u u
 |int (k:IntKind) (m n:Int):NZ (.int k m) (.int k n)
 |bool (a b:Bool):NZ (.bool a) (.bool b)
 |str (a b:ByteArray):NZ (.string a) (.string b)
theorem NZ.trans{a b c:Value}(h:NZ a b)(k:NZ b c):NZ a c:=by
 cases h with
 |refl=>exact k
 |int kk m n=>cases k with
  |refl=>exact .int kk m n
  |int _ _ q=>exact .int kk m q
 |bool x y=>cases k with
  |refl=>exact .bool x y
  |bool _ q=>exact .bool x q
 |str x y=>cases k with
  |refl=>exact .str x y
  |str _ q=>exact .str x q
def Mm(us vs:List Value):Prop:=us.length=vs.length∧∀(j:Nat) (u v:Value),us[j]? =some u->vs[j]? =some v->NZ u v
theorem Mm.refl(us:List Value):Mm us us:=⟨rfl,fun j u v h k=>by rw [h]at k;obtain rfl:=Option.some.inj k;exact .refl _⟩
structure Ni(p:Nat->Prop)(w w':World):Prop where
 but:Af p w w'
 cell:∀b off u,w.cell? ⟨b,off,none⟩=some u->∃u',w'.cell? ⟨b,off,none⟩=some u'∧NZ u u'
 froz:∀b off,b<w.heap.size->w.frozen? ⟨b,off,none⟩=false->w'.frozen? ⟨b,off,none⟩=false
section
variable {p q:Nat -> Prop} {w a c:World}
theorem Ni.refl(p:Nat->Prop)(w:World):Ni p w w:=⟨Af.refl p w,fun _ _ u h=>⟨u,h,.refl _⟩,fun _ _ _ h=>h⟩
theorem Ni.ofBut(h:Af p w a)(hb:∀k,k<w.heap.size->a.heap[k]? =w.heap[k]?):Ni p w a:=
 ⟨h,fun b off u hu=>⟨u,by rw [World.cell?_of_block (w:=w) (hb b (World.block_lt_of_cell? _ _ hu))];exact hu,.refl _⟩,fun b off hl hf=>by rw [Eo (hb b hl)];exact hf⟩
theorem Ni.then(h:Ni p w a)(k:Ni q a c)(hb:Af p w c):Ni p w c:=
 ⟨hb,fun b off u hu=>by
  obtain⟨u1,h1,h2⟩:=h.cell b off u hu
  obtain⟨u2,h3,h4⟩:=k.cell b off u1 h1
  exact⟨u2,h3,h2.trans h4⟩,fun b off hl hf=>k.froz b off (Nat.lt_of_lt_of_le hl h.but.size) (h.froz b off hl hf)⟩
theorem Ni.ext(h:Ni p w a)(he:AS a c):Ni p w c:=
 h.then (q:=fun _=>False) (Ni.ofBut ⟨he.os,he.tape,he.output,he.size,fun k hk _=>he.block k hk⟩ fun k hk=>he.block k hk) (h.but.ext he)
theorem Ni.sim(h:Ni p w a)(k:Ni q a c)(hq:∀k,q k->p k∨w.heap.size<=k):Ni p w c:=h.then k (h.but.but k.but hq)
theorem Ni.upd{b:Nat}(h:Ni p w a)(hu:GU b a c)(hb:w.heap.size<=b):Ni p w c:=
 ⟨h.but.upd hu (.inr hb),fun d off u hd=>by
  obtain⟨u1,h1,h2⟩:=h.cell d off u hd
  have:=World.block_lt_of_cell? _ _ hd
  exact⟨u1,by rw [World.cell?_of_block (w:=a) (hu.block d (by show d≠b;have:d<w.heap.size:=this;omega))];exact h1,h2⟩,fun d off hl hf=>by
  rw [Eo (hu.block d (by omega))];exact h.froz d off hl hf⟩
end
theorem AP.cons{w:World}{b off:Nat}{u:Value}{us:List Value}(h:AP w b off (u::us)):(w.cell? ⟨b,off,none⟩=some u∧w.frozen? ⟨b,off,none⟩=false)∧AP w b (off+1) us:=
 ⟨by have:=h 0 u rfl;rwa [Nat.add_zero]at this,fun j v hj=>by have:=h (j+1) v (by simpa using hj);rwa [show off+(j+1)=off+1+j by omega]at this⟩
theorem AP.mk{w:World}{b off:Nat}{u:Value}{us:List Value}(h0:w.cell? ⟨b,off,none⟩=some u∧w.frozen? ⟨b,off,none⟩=false)(h:AP w b (off+1) us):AP w b off (u::us):=fun j v hj=>by
 cases j with
 |zero=>obtain rfl:u=v:=by simpa using hj
        rw [Nat.add_zero];exact h0
 |succ j=>rw [show off+(j+1)=off+1+j by omega];exact h j v (by simpa using hj)
theorem AP.sim{p:Nat->Prop}{w w':World}(hs:Ni p w w'){b:Nat}:∀{us:List Value} {off:Nat},AP w b off us->∃us',Mm us us'∧AP w' b off us'
 |[],off,_=>⟨[],Mm.refl _,fun j u h=>by simp at h⟩
 |u::us,off,h=>by
  obtain⟨⟨h1,h2⟩,h3⟩:=h.cons
  obtain⟨us',⟨k1,k2⟩,k3⟩:=AP.sim hs h3
  obtain⟨u',h4,h5⟩:=hs.cell b off u h1
  refine⟨u'::us',⟨by simp [k1],fun j x y hx hy=>?_⟩,AP.mk ⟨h4,hs.froz b off (World.block_lt_of_cell? _ _ h1) h2⟩ k3⟩
  cases j with
  |zero=>obtain rfl:u=x:=by simpa using hx
         obtain rfl:u'=y:=by simpa using hy
         exact h5
  |succ j=>exact k2 j x y (by simpa using hx) (by simpa using hy)
/-! ## Codecs that do not tell numbers -/
class PL{α:Type}(c:Co α):Prop where
 sim:∀{p:Nat->Prop} {w w':World} {S:Nat->Prop} {x:α} {vs vs':List Value},c.rep w S x vs->Ni p w w'->Mm vs vs'->c.rep w' S x vs'
theorem Mm.one{u:Value}{vs:List Value}(h:Mm [u] vs):∃v,vs=[v]∧NZ u v:=by
 obtain⟨v,rfl⟩:=List.length_eq_one_iff.1 h.1.symm
 exact⟨v,rfl,h.2 0 u v rfl rfl⟩
theorem Mm.app{us ts vs:List Value}(h:Mm (us++ts) vs):∃vs1 vs2,vs=vs1++vs2∧Mm us vs1∧Mm ts vs2:=by
 obtain⟨h1,h2⟩:=h
 rw [List.length_append]at h1
 refine⟨vs.take us.length,vs.drop us.length,(List.take_append_drop _ _).symm,⟨by simp;omega,fun j u v hu hv=>?_⟩,⟨by simp;omega,fun j u v hu hv=>?_⟩⟩
 ·have hj:=(List.getElem?_eq_some_iff.1 hu).1
  rw [List.getElem?_take,if_pos hj]at hv
  exact h2 j u v (by rw [List.getElem?_append_left hj];exact hu) hv
 ·rw [List.getElem?_drop]at hv
  exact h2 (us.length+j) u v (by rw [List.getElem?_append_right (by omega),Nat.add_sub_cancel_left];exact hu) hv
instance {α β:Type}(c:Co α)(d:Co β)[hc:PL c][hd:PL d]:PL (Bc c d):=⟨fun⟨us,ts,e,h1,h2⟩ hs h=>by
 subst e;obtain⟨vs1,vs2,rfl,k1,k2⟩:=h.app
 exact⟨vs1,vs2,rfl,hc.sim h1 hs k1,hd.sim h2 hs k2⟩⟩
instance {α β:Type}(f:β->α)(c:Co α)[hc:PL c]:PL (Dl f c):=⟨fun h hs k=>hc.sim h hs k⟩
theorem AE.sim{α:Type}{c:Co α}[hc:PL c]{p:Nat->Prop}{w w':World}{S:Nat->Prop}{xs:List α}{v:Value}(h:AE c w S xs v)(hs:Ni p w w'):AE c w' S xs v:=by
 obtain⟨a,cap,h1,h2,h3,h4⟩:=h
 refine⟨a,cap,h1,h2,h3,fun hl=>?_⟩
 obtain⟨b,off,h5,h6,h8⟩:=h4 hl
 refine⟨b,off,h5,h6,fun i x hx=>?_⟩
 obtain⟨us,h9,h10⟩:=h8 i x hx
 obtain⟨us',k1,k2⟩:=h10.sim hs
 exact⟨us',hc.sim h9 hs k1,k2⟩
instance {α:Type}(c:Co α)[PL c]:PL (FQ c):=⟨fun⟨v,e,h⟩ hs k=>by
 subst e;obtain⟨v',rfl,k2⟩:=k.one
 obtain⟨a,cap,rfl,_⟩:=id h
 cases k2
 exact⟨_,rfl,h.sim hs⟩⟩
section
variable {P:Program} {N:Nat} {o:Oper} {K:KL} {w:World}
end
/-! ## Worlds, in fewer words -/
theorem AC.slG{α:Type}{c:Co α}{w:World}{B:Nat}{S S':Nat->Prop}{e:TypeId}{xs:List α}{v:Value}(h:AC c w B S e xs v)(hS:∀k,S k->S' k)(hb:∀g,v.ownBlock=some g->S' g):AE c w S' xs v:=by
 obtain⟨cs,h0,h3⟩:=h
 have h0':=h0
 obtain⟨hl,⟨rfl,hn⟩|⟨g,cap,cur,rfl,_,hh,h5,h6,h7,h8⟩⟩:=h0'
 ·have:xs=[]:=List.eq_nil_of_length_eq_zero hn
  subst this;exact AE.nil _ _ _
 ·refine⟨some ⟨g,0,none⟩,cap,rfl,⟨h5,fun h=>by cases h⟩,by simpa [maxLen] using h6,fun hpos=>⟨g,0,rfl,hb g rfl,fun i x hx=>⟨_,c.mono (h3 i x hx) hS (fun _ _=>rfl),fun j u hu=>?_⟩⟩⟩
  have hjn:j<c.n:=by
   have:=(List.getElem?_eq_some_iff.1 hu).1
   simp [BM]at this;omega
  rw [Bn hjn]at hu
  have:=h0.cells (g:=g) rfl _ _ hu
  rw [Ch]at this
  rw [show 0+i*c.n+j=0+(i*c.n+j) by omega];exact⟨this,by simp [World.frozen?,hh]⟩
theorem nr{n:Nat}:n<=n:=Nat.le_refl n
end Go.Eng
namespace Go.Eng
open Go Go.RowKit
/-! ## Own slices of own slices: built by literals and appends, written by calls -/
def NT:Co Value where
 n:=1
 rep:=fun _ _ x vs=>vs=[x]∧x.oneCell'=true
 len:=fun h=>by rw [h.1];rfl
 one:=fun h=>by rw [h.1];simp [h.2]
 mono:=fun h _ _=>h
instance:Cx NT:=⟨fun h=>h⟩
theorem Wd{w:World}{B:Nat}{S:Nat->Prop}{e:TypeId}{vs:List Value}{v:Value}(h:AC NT w B S e vs v):w.ownsRow B e 1 v vs.length vs:=by
 obtain⟨cs,h1,h2⟩:=h
 have hl:cs.length=vs.length:=by have:=h1.1;simpa [NT] using this
 have e1:cs=vs:=by
  apply List.ext_getElem?
  intro i
  by_cases hi:i<vs.length
  ·have h3:=(h2 i vs[i] (List.getElem?_eq_getElem hi)).1
   have h4:(BM cs 1 i)[0]? =some vs[i]:=by rw [show BM cs 1 i=[vs[i]]from h3];rfl
   rw [Bn (by omega)]at h4
   rw [List.getElem?_eq_getElem hi,←h4];congr 1;omega
  ·rw [List.getElem?_eq_none (by omega),List.getElem?_eq_none (by omega)]
 rw [e1]at h1;exact h1
section
variable {α:Type} {c:Co α} [Cx c] {w w':World} {B B1 B2 hi lo1 hi1 lo2 hi2:Nat} {S:Nat -> Prop} {e1 e2:TypeId} {xss:List (List α)} {xs ys:List α} {v u t:Value} {vs:List Value}
theorem own2.raw(h:own2 c w B hi e1 e2 xss v vs):AC NT w B (Iv 0 0) e1 vs v:=by
 have hl:vs.length=xss.length:=by have:=h.1.1;omega
 have h1:=h.1
 rw [←hl]at h1
 refine⟨vs,h1,fun i x hx=>⟨XM hx,?_⟩⟩
 have hi:i<xss.length:=by have:=(List.getElem?_eq_some_iff.1 hx).1;omega
 exact(h.2.1 i _ x (List.getElem?_eq_getElem hi) hx).1.one
theorem own2.of(h:AC NT w B S e1 vs v)(hl:vs.length=xss.length)(hin:∀(i:Nat) (xs:List α) (u:Value),xss[i]? =some xs->vs[i]? =some u->AC c w B (Iv 0 0) e2 xs u∧Bd u B hi∧No v u)
 (hd:∀(i j:Nat) (u u':Value),i≠j->vs[i]? =some u->vs[j]? =some u'->No u u'):own2 c w B hi e1 e2 xss v vs:=by
 have h1:=Wd h
 rw [hl]at h1
 exact⟨h1,hin,hd⟩
theorem own2.base{B':Nat}(h:own2 c w B hi e1 e2 xss v vs)(hB:B'<=B):own2 c w B' hi e1 e2 xss v vs:=by
 refine own2.of (AC.base h.raw hB) (by have:=h.1.1;omega) (fun i xs u hx hu=>?_) h.2.2
 obtain⟨p,q,r⟩:=h.2.1 i xs u hx hu
 exact⟨p.base hB,fun g hg=>by have:=q g hg;omega,r⟩
theorem own2.lit0(h:AC NT w B S e1 [] v):own2 c w B hi e1 e2 ([]:List (List α)) v []:=
 own2.of h rfl (fun i xs u hx=>by simp at hx) (fun i j u u' _ hx=>by simp at hx)
theorem own2.lit1{g:Nat}(h:AC NT w g S e1 [u] v)(h1:AC c w B1 (Iv 0 0) e2 xs u)(hb:Bd v g (g+1))(b1:Bd u lo1 hi1)(hB:B<=B1)(hg:B<=g)(hl:B<=lo1)(hh:hi1<=g):own2 c w B g e1 e2 [xs] v [u]:=by
 refine own2.of (AC.base h hg) rfl (fun i x t hx ht=>?_) (fun i j t t' hij ht ht'=>?_)
 ·match i with
  |0=>
   obtain rfl:xs=x:=Option.some.inj hx
   obtain rfl:u=t:=Option.some.inj ht
   exact⟨h1.base hB,fun q hq=>by have:=b1 q hq;omega,fun q q' hq hq'=>by have:=hb q hq;have:=b1 q' hq';omega⟩
  |i+1=>simp at hx
 ·match i,j with
  |0,0=>exact absurd rfl hij
  |0,j+1=>simp at ht'
  |i+1,_=>simp at ht
theorem own2.put{m:Int}{zs:List α}(h:own2 c w B hi e1 e2 xss v vs)(hy:AL xss m=some xs)(hu:vs[m.toNat]? =some u)(hb:Af (pO u) w w')(hle:hi<=w.heap.size)(ho:AC c w' B1 (Iv 0 0) e2 zs u)(hB:B<=B1):own2 c w' B hi e1 e2 (xss.set m.toNat zs) v vs:=by
 obtain⟨_,hbu,hvu⟩:=h.sub hy hu
 obtain⟨a,b,d⟩:=h
 refine⟨?_,fun i x t hx ht=>?_,d⟩
 ·rw [List.length_set]
  exact ownsRow.keep a (fun g hg=>hb.block g (a.lt g hg).2 (fun e=>hvu g g hg e rfl))
 ·rcases Me hx with ⟨rfl,rfl⟩|⟨hne,hx3⟩
  ·obtain rfl:u=t:=Option.some.inj (hu.symm.trans ht)
   exact⟨ho.base hB,hbu,hvu⟩
  ·obtain⟨p,q,r⟩:=b i x t hx3 ht
   exact⟨p.keep (fun g hg=>hb.block g (by have:=q g hg;omega) (fun e=>d m.toNat i u t hne hu ht g g e hg rfl)) (fun _ h=>h) (fun k h=>absurd h.2 (Nat.not_lt_zero k)),q,r⟩
end
theorem St{α β:Type}{xs ys zs:List α}{vs us:List β}{k:Nat}(h:Bk xs ys k=some zs)(h1:vs.length=xs.length)(h2:us.length=ys.length):Bk vs us k=some (vs++us)∧zs=xs++ys:=by
 unfold Bk at h ⊢
 rw [h1,h2]
 split at h
 ·rename_i hc
  rw [if_pos hc];exact⟨rfl,(Option.some.inj h).symm⟩
 ·cases h
section
variable {P:Program} {N:Nat} {K:KL} {o:Oper} {α:Type} {c:Co α} [Cx c] {w:World} {B hi B2 hi2:Nat} {e1 e2:TypeId} {xss yss zss:List (List α)} {v u:Value} {vs us:List Value}
theorem PI{t x y zc sz by'}(ho:o.op= .call { callee:=.builtin .append,args:=#[x,y],argTypes:=#[t,t] })(hu:P.underlying t=some (.slice e1))(hi1:DL P e1=some (zc,sz,by'))(hsz:sz=1)(hzc:zc.length=sz)
 (hx:CK K x=some v) (hy:CK K y=some u) (h:own2 c w B hi e1 e2 xss v vs) (h2:own2 c w B2 hi2 e1 e2 yss u us) (hB:B<=w.heap.size) (hle:hi<=B2) (hBB:B<=B2) (hh2:hi2<=w.heap.size) (hh:hi<=w.heap.size) (hns:Ns v B2 hi2) (ha:Bk xss yss by'=some zss):
 JY P N K o w (fun v' w'=>own2 c w' B w'.heap.size e1 e2 zss v' (vs++us)∧AO w w' v v'):=by
 have hl1:vs.length=xss.length:=by have:=h.1.1;omega
 have hl2:us.length=yss.length:=by have:=h2.1.1;omega
 obtain⟨ha2,rfl⟩:=St ha hl1 hl2
 intro a hK Kt Q hk
 refine Ac (c:=NT) (S2:=Iv 0 w.heap.size) ho hu hi1 hsz hzc rfl hx hy h.raw hB (AC.slf h2.raw (Nat.zero_le _) (Nat.le_refl _)) ha2 a hK Kt Q ?_
 rintro v' w' ⟨h3,h4⟩
 have hsize:=h4.1.size
 have nv:∀q,q<w.heap.size->(∀g,v.ownBlock=some g->g≠q)->∀g,v'.ownBlock=some g->g≠q:=fun q hq hne g hg=>by
  rcases h4.2 g hg with h5|h5
  ·exact hne g h5
  ·omega
 have one:∀{B3 hi3:Nat} {xs:List α} {t:Value},hi3<=w.heap.size->B<=B3->(∀g q,v.ownBlock=some g->t.ownBlock=some q->g≠q)->AC c w B3 (Iv 0 0) e2 xs t->Bd t B3 hi3->AC c w' B (Iv 0 0) e2 xs t∧Bd t B w'.heap.size∧No v' t:=fun hh3 hB3 hne p q=>
  ⟨(p.keep (fun g hg=>h4.1.block g (by have:=q g hg;omega) (fun e=>hne g g e.symm hg rfl)) (fun _ h=>h) (fun k h=>absurd h.2 (Nat.not_lt_zero k))).base hB3,fun g hg=>by have:=q g hg;omega,fun g q2 hg hq=>nv q2 (by have:=q q2 hq;omega) (fun g2 hg2=>hne g2 q2 hg2 hq) g hg⟩
 have get:∀i t,(vs++us)[i]? =some t->(i<vs.length∧vs[i]? =some t)∨(vs.length<=i∧us[i-vs.length]? =some t):=fun i t h=>by
  by_cases hi:i<vs.length
  ·rw [List.getElem?_append_left hi]at h;exact .inl ⟨hi,h⟩
  ·rw [List.getElem?_append_right (by omega)]at h;exact .inr ⟨by omega,h⟩
 have lo:∀i t,vs[i]? =some t->Bd t B hi∧No v t:=fun i t ht=>by
  have hi:i<xss.length:=by have:=(List.getElem?_eq_some_iff.1 ht).1;omega
  exact(h.2.1 i _ t (List.getElem?_eq_getElem hi) ht).2
 have up:∀i t,us[i]? =some t->Bd t B2 hi2:=fun i t ht=>by
  have hi:i<yss.length:=by have:=(List.getElem?_eq_some_iff.1 ht).1;omega
  exact(h2.2.1 i _ t (List.getElem?_eq_getElem hi) ht).2.1
 refine hk _ _ ⟨own2.of h3 (by simp;omega) (fun i xs t hx2 ht=>?_) (fun i j t t' hij ht ht'=>?_),h4⟩
 ·rcases get i t ht with ⟨h5,h6⟩|⟨h5,h6⟩
  ·rw [List.getElem?_append_left (by omega)]at hx2
   obtain⟨p,q,r⟩:=h.2.1 i xs t hx2 h6
   exact one hh (Nat.le_refl _) r p q
  ·rw [List.getElem?_append_right (by omega)]at hx2
   obtain⟨p,q,r⟩:=h2.2.1 (i-vs.length) xs t (by rw [hl1];exact hx2) h6
   exact one hh2 hBB (fun g q2 hg hq=>by have:=hns g hg;have:=q q2 hq;omega) p q
 ·rcases get i t ht with ⟨h5,h6⟩|⟨h5,h6⟩<;>rcases get j t' ht' with ⟨h7,h8⟩|⟨h7,h8⟩
  ·exact h.2.2 i j t t' hij h6 h8
  ·intro g q hg hq;have:=(lo i t h6).1 g hg;have:=up _ t' h8 q hq;omega
  ·intro g q hg hq;have:=(lo j t' h8).1 q hq;have:=up _ t h6 g hg;omega
  ·exact h2.2.2 (i-vs.length) (j-vs.length) t t' (by omega) h6 h8
end
end Go.Eng
namespace Go.Eng
open Go Go.RowKit
/-! ## A slice that is handed over to grow -/
def Gr(w:World)(v v':Value):Prop:=∀g,v'.ownBlock=some g->v.ownBlock=some g∨w.heap.size<=g
theorem Gr.refl(w:World)(v:Value):Gr w v v:=fun g hg=>.inl hg
theorem Gr.grew{w w1 w2:World}{v v1 v2:Value}(h:Gr w v v1)(hw:w.heap.size<=w1.heap.size)(hg:AO w1 w2 v1 v2):Gr w v v2:=fun g hv=>by
 rcases hg.2 g hv with h1|h1
 ·exact h g h1
 ·exact .inr (by omega)
theorem AO.of{w w':World}{v v':Value}(h:Af (pO v) w w')(g:Gr w v v'):AO w w' v v':=
 ⟨⟨h.os,h.tape,h.output,h.size,fun k hk hne=>h.block k hk (fun e=>hne e.symm)⟩,g⟩
end Go.Eng
namespace Go.Eng
open Go Go.RowKit
/-! ## The end of an own slice, that may grow -/
def Er{α:Type}(c:Co α)(w:World)(B:Nat)(e:TypeId)(xs:List α)(v:Value):Prop:=
 ∃cs,cs.length=xs.length*c.n∧(∀i x,xs[i]? =some x->c.rep w (Iv 0 0) x (BM cs c.n i))∧
  (v= .slice none 0 0∧xs.length=0∨∃g off cap cur,v= .slice (some ⟨g,off,none⟩) xs.length cap∧B<=g∧w.heap[g]? =some (.cells cur e (0,0))∧xs.length<=cap∧cap<=maxLen∧off+cap*c.n<=cur.size∧(cur.toList.drop off).take (xs.length*c.n)=cs)
section
variable {α:Type} {c:Co α} {w w':World} {B:Nat} {e:TypeId} {xs zs:List α} {v u:Value}
theorem Er.of(h:AC c w B (Iv 0 0) e xs v):Er c w B e xs v:=by
 obtain⟨cs,⟨hl,h1⟩,h3⟩:=h
 refine⟨cs,hl,h3,?_⟩
 rcases h1 with h1|⟨g,cap,cur,rfl,a1,a2,a3,a4,a5,a6⟩
 ·exact .inl h1
 ·exact .inr ⟨g,0,cap,cur,rfl,a1,a2,a3,a4,by omega,by simpa using a6⟩
theorem Er.blk(h:Er c w B e xs v):Bd v B w.heap.size:=by
 obtain⟨cs,_,_,⟨rfl,_⟩|⟨g,off,cap,cur,rfl,a1,a2,_⟩⟩:=h
 ·intro g hg;cases hg
 ·intro q hq
  simp [Value.ownBlock]at hq;subst hq
  exact⟨a1,(Array.getElem?_eq_some_iff.1 a2).1⟩
theorem Er.base{B':Nat}(h:Er c w B e xs v)(hB:B'<=B):Er c w B' e xs v:=by
 obtain⟨cs,h1,h2,h3⟩:=h
 refine⟨cs,h1,h2,?_⟩
 rcases h3 with h3|⟨g,off,cap,cur,a0,a1,rest⟩
 ·exact .inl h3
 ·exact .inr ⟨g,off,cap,cur,a0,by omega,rest⟩
theorem Er.keep[Cx c](h:Er c w B e xs v)(hg:∀g,v.ownBlock=some g->w'.heap[g]? =w.heap[g]?):Er c w' B e xs v:=by
 obtain⟨cs,h1,h2,h3⟩:=h
 refine⟨cs,h1,fun i x hx=>Cx.any (h2 i x hx),?_⟩
 rcases h3 with h3|⟨g,off,cap,cur,rfl,a1,a2,rest⟩
 ·exact .inl h3
 ·exact .inr ⟨g,off,cap,cur,rfl,a1,(hg g rfl).trans a2,rest⟩
theorem Er.ext[Cx c](h:Er c w B e xs v)(he:AS w w'):Er c w' B e xs v:=h.keep (fun g hg=>he.block g (h.blk g hg).2)
theorem Er.upd[Cx c]{b:Nat}(h:Er c w B e xs v)(hu:GU b w w')(hne:Nb v b):Er c w' B e xs v:=h.keep (fun g hg=>hu.block g (hne g hg))
theorem Er.butF[Cx c]{p:Nat->Prop}(h:Er c w B e xs v)(hb:Af p w w')(hne:∀k,p k->∀g,v.ownBlock=some g->k≠g):Er c w' B e xs v:=h.keep (fun g hg=>hb.block g (h.blk g hg).2 (fun e=>hne g e g hg rfl))
theorem Er.sl[Cx c]{S:Nat->Prop}(h:Er c w B e xs v)(hb:∀g,v.ownBlock=some g->S g):AE c w S xs v:=by
 obtain⟨cs,hl,h3,⟨rfl,hn⟩|⟨g,off,cap,cur,rfl,_,hh,h5,h6,h7,h8⟩⟩:=h
 ·have:xs=[]:=List.eq_nil_of_length_eq_zero hn
  subst this;exact AE.nil _ _ _
 ·refine⟨some ⟨g,off,none⟩,cap,rfl,⟨h5,fun h=>by cases h⟩,by simpa [maxLen] using h6,fun hpos=>⟨g,off,rfl,hb g rfl,fun i x hx=>⟨_,Cx.any (h3 i x hx),fun j u hu=>?_⟩⟩⟩
  have hjn:j<c.n:=by
   have:=(List.getElem?_eq_some_iff.1 hu).1
   simp [BM]at this;omega
  have hi:i<xs.length:=(List.getElem?_eq_some_iff.1 hx).1
  rw [Bn hjn,←h8,List.getElem?_take]at hu
  split at hu
  ·rw [List.getElem?_drop]at hu
   have e1:off+i*c.n+j=off+(i*c.n+j):=by omega
   rw [e1]
   refine⟨?_,by simp [World.frozen?,hh]⟩
   have hu2:cur[off+(i*c.n+j)]? =some u:=by simpa using hu
   rw [cell_of_row w g _ cur e (0,0) hh];exact hu2
  ·cases hu
theorem Er.slf[Cx c]{lo hi:Nat}(h:Er c w B e xs v)(h1:lo<=B)(h2:w.heap.size<=hi):AE c w (Iv lo hi) xs v:=h.sl (fun g hg=>by have:=h.blk g hg;exact⟨by omega,by omega⟩)
theorem Er.slb[Cx c]{lo hi:Nat}(h:Er c w B e xs v)(hb:Bd v lo hi):AE c w (Iv lo hi) xs v:=h.sl hb
section
variable {P:Program} {N:Nat} {K:KL} {o:Oper} {S:Nat -> Prop}
variable {ys:List α}
end
end
end Go.Eng
namespace Go.Eng
open Go Go.RowKit
/-! ## Short words for the plain texts -/
theorem Av{α β:Type}{a:α}{f:α->Option β}:Option.bind (some a) f=f a:=rfl
theorem cT{α:Type}{x y:α}:(bif true then x else y)=x:=rfl
theorem cF{α:Type}{x y:α}:(bif false then x else y)=y:=rfl
theorem wT(i:Nat)(h:i<4611686018427387904:=by omega):IntKind.wrap IntKind.i64 ((i:Int)+1)=((i+1:Nat):Int):=mY h
theorem Al{α:Type}{a r:α}(h:some a=some r):r=a:=(Option.some.inj h).symm
theorem lM(b:Bool):b=true∨b=false:=Bool.eq_false_or_eq_true b
end Go.Eng
namespace Go.Eng
open Go Go.RowKit
/-! ## Parts of an own slice: its beginning, its end, and clear -/
section
variable {α:Type} {c:Co α} {w w':World} {B:Nat} {S:Nat -> Prop} {e:TypeId} {xs zs:List α} {v u:Value}
theorem Gr.cut{w:World}{v v':Value}{m:Nat}(h:Gr w v v'):Gr w v (Wn v' m):=fun g hg=>h g (by rwa [PG]at hg)
section
variable {P:Program} {N:Nat} {K:KL} {o:Oper}
theorem ZF{t x hi k2 m2}(ho:o.op= .slice t x none (some hi) none)(hu:P.underlying t=some (.slice e))(hc:BX P e=some c.n)(hx:CK K x=some v)(h2:CK K hi=some (.int k2 m2))
 (hs:AC c w B S e xs v) (hz:Hd xs 0 m2=some zs):YE P N K o w (fun u=>u=Wn v m2.toNat∧zs=xs.take m2.toNat∧AC c w B S e zs u):=by
 have hs0:=hs
 obtain⟨cs,⟨hl,h1⟩,h3⟩:=hs
 unfold Hd at hz
 split at hz
 ·rename_i hb
  injection hz with hz;subst hz
  have he:(xs.take m2.toNat).drop (0:Int).toNat=xs.take m2.toNat:=by simp
  rw [he]
  have hcut:=hs0.cut (m:=m2.toNat) (by omega)
  obtain⟨i,hi2,hsz⟩:=Option.map_eq_some_iff.1 hc
  rcases h1 with ⟨rfl,h0⟩|⟨g,cap,cur,rfl,a1,a2,a3,a4,a5,a6⟩
  ·have hm0:m2=0:=by omega
   subst hm0
   refine⟨.slice none 0 0,fun a' hK w' he=>?_,rfl,rfl,hcut⟩
   have e1:(Instr.sliceBound (.int k2 0) 0 .sliceAcap).run P w'= .ok (0:Int).toNat w':=EF (by omega) (by omega)
   simp [execOp,ho,hK.ev hx,hK.ev h2,Instr.sliceAt,Instr.slice,run_underlying hu,Instr.sliceBounds,e1,sizeOf,typeInfo,hi2,hsz]
  ·refine⟨.slice (some ⟨g,0,none⟩) m2.toNat cap,fun a' hK w' he=>?_,rfl,rfl,hcut⟩
   have e1:(Instr.sliceBound (.int k2 m2) cap .sliceAcap).run P w'= .ok m2.toNat w':=EF (by omega) (by omega)
   simp [execOp,ho,hK.ev hx,hK.ev h2,Instr.sliceAt,Instr.slice,run_underlying hu,Instr.sliceBounds,e1,sizeOf,typeInfo,hi2,hsz,Ch]
 ·cases hz
end
end
end Go.Eng
namespace Go.Eng
open Go Go.RowKit
/-! ## Numbers that turn within what is only read: what is read then is told by its shape -/
inductive Oh:Value->Value->Prop
 |refl (u:Value):Oh u u
 |int (k:IntKind) (m n:Int):Oh (.int k m) (.int k n)
theorem Oh.trans{a b c:Value}(h:Oh a b)(k:Oh b c):Oh a c:=by
 cases h with
 |refl=>exact k
 |int kk m n=>cases k with
  |refl=>exact .int kk m n
  |int _ _ q=>exact .int kk m q
def ON(us vs:List Value):Prop:=us.length=vs.length∧∀(j:Nat) (u v:Value),us[j]? =some u->vs[j]? =some v->Oh u v
theorem ON.refl(us:List Value):ON us us:=⟨rfl,fun j u v h k=>by rw [h]at k;obtain rfl:=Option.some.inj k;exact .refl _⟩
theorem ON.one{u:Value}{vs:List Value}(h:ON [u] vs):∃v,vs=[v]∧Oh u v:=by
 obtain⟨v,rfl⟩:=List.length_eq_one_iff.1 h.1.symm
 exact⟨v,rfl,h.2 0 u v rfl rfl⟩
theorem ON.app{us ts vs:List Value}(h:ON (us++ts) vs):∃vs1 vs2,vs=vs1++vs2∧ON us vs1∧ON ts vs2:=by
 obtain⟨h1,h2⟩:=h
 rw [List.length_append]at h1
 refine⟨vs.take us.length,vs.drop us.length,(List.take_append_drop _ _).symm,⟨by simp;omega,fun j u v hu hv=>?_⟩,⟨by simp;omega,fun j u v hu hv=>?_⟩⟩
 ·have hj:=(List.getElem?_eq_some_iff.1 hu).1
  rw [List.getElem?_take,if_pos hj]at hv
  exact h2 j u v (by rw [List.getElem?_append_left hj];exact hu) hv
 ·rw [List.getElem?_drop]at hv
  exact h2 (us.length+j) u v (by rw [List.getElem?_append_right (by omega),Nat.add_sub_cancel_left];exact hu) hv
structure EL(b:Nat)(w w':World):Prop where
 upd:GU b w w'
 cell:∀d off u,w.cell? ⟨d,off,none⟩=some u->∃u',w'.cell? ⟨d,off,none⟩=some u'∧Oh u u'
 froz:∀d off,d<w.heap.size->w.frozen? ⟨d,off,none⟩=false->w'.frozen? ⟨d,off,none⟩=false
 row:∀cur ty fz,w.heap[b]? =some (.cells cur ty fz)->∃cur',w'.heap[b]? =some (.cells cur' ty fz)∧ON cur.toList cur'.toList
theorem AP.siB{c:Nat}{w w':World}(hs:EL c w w'){b:Nat}:∀{us:List Value} {off:Nat},AP w b off us->∃us',ON us us'∧AP w' b off us'
 |[],off,_=>⟨[],ON.refl _,fun j u h=>by simp at h⟩
 |u::us,off,h=>by
  obtain⟨⟨h1,h2⟩,h3⟩:=h.cons
  obtain⟨us',⟨k1,k2⟩,k3⟩:=AP.siB hs h3
  obtain⟨u',h4,h5⟩:=hs.cell b off u h1
  refine⟨u'::us',⟨by simp [k1],fun j x y hx hy=>?_⟩,AP.mk ⟨h4,hs.froz b off (World.block_lt_of_cell? _ _ h1) h2⟩ k3⟩
  cases j with
  |zero=>obtain rfl:u=x:=by simpa using hx
         obtain rfl:u'=y:=by simpa using hy
         exact h5
  |succ j=>exact k2 j x y (by simpa using hx) (by simpa using hy)
def FM{α:Type}(r:α->α->Prop)(xs ys:List α):Prop:=ys.length=xs.length∧∀(i:Nat) (x y:α),xs[i]? =some x->ys[i]? =some y->r x y
theorem FM.pick{α:Type}{r:Nat->α->α->Prop}:∀{xs:List α} {s:Nat},(∀(i:Nat) (x:α),xs[i]? =some x->∃y,r (s+i) x y)->∃ys:List α,ys.length=xs.length∧∀(i:Nat) (x y:α),xs[i]? =some x->ys[i]? =some y->r (s+i) x y
 |[],s,_=>⟨[],rfl,fun i x y h=>by simp at h⟩
 |x::xs,s,h=>by
  obtain⟨y,hy⟩:=h 0 x rfl
  obtain⟨ys,h1,h2⟩:=FM.pick (r:=r) (xs:=xs) (s:=s+1) fun i z hz=>by
   have:=h (i+1) z (by simpa using hz)
   rwa [show s+(i+1)=s+1+i by omega]at this
  refine⟨y::ys,by simp [h1],fun i a b ha hb=>?_⟩
  cases i with
  |zero=>obtain rfl:x=a:=by simpa using ha
         obtain rfl:y=b:=by simpa using hb
         exact hy
  |succ i=>have:=h2 i a b (by simpa using ha) (by simpa using hb)
           rwa [show s+1+i=s+(i+1) by omega]at this
class Oo{α:Type}(c:Co α)(r:outParam (α->α->Prop)):Prop where
 sim:∀{b:Nat} {w w':World} {S:Nat->Prop} {x:α} {vs vs':List Value},c.rep w S x vs->EL b w w'->ON vs vs'->∃x',r x x'∧c.rep w' S x' vs'
instance (k:IntKind):Oo (AG k) (fun _ _=>True):=⟨fun e _ h=>by
 obtain rfl:=e;obtain⟨v,rfl,h2⟩:=h.one
 cases h2 with
 |refl=>exact⟨_,trivial,rfl⟩
 |int _ _ n=>exact⟨n,trivial,rfl⟩⟩
instance:Oo BK Eq:=⟨fun e _ h=>by
 obtain rfl:=e;obtain⟨v,rfl,h2⟩:=h.one
 cases h2;exact⟨_,rfl,rfl⟩⟩
instance:Oo Az Eq:=⟨fun e _ h=>by
 obtain rfl:=e;obtain⟨v,rfl,h2⟩:=h.one
 cases h2;exact⟨_,rfl,rfl⟩⟩
instance {α β:Type}(c:Co α)(d:Co β)(r:α->α->Prop)(q:β->β->Prop)[hc:Oo c r][hd:Oo d q]:Oo (Bc c d) (fun x y=>r x.1 y.1∧q x.2 y.2):=⟨fun⟨us,ts,e,h1,h2⟩ hs h=>by
 subst e;obtain⟨vs1,vs2,rfl,k1,k2⟩:=h.app
 obtain⟨x,a1,a2⟩:=hc.sim h1 hs k1
 obtain⟨y,b1,b2⟩:=hd.sim h2 hs k2
 exact⟨(x,y),⟨a1,b1⟩,vs1,vs2,rfl,a2,b2⟩⟩
theorem Oo.map{α β:Type}{c:Co α}{r:α->α->Prop}[hc:Oo c r](f:β->α)(g:α->β)(h:∀y,f (g y)=y):Oo (Dl f c) (fun x y=>r (f x) (f y)):=⟨fun k hs hv=>by
 obtain⟨y,a1,a2⟩:=hc.sim k hs hv
 exact⟨g y,by show r _ (f (g y));rw [h];exact a1,by show c.rep _ _ (f (g y)) _;rw [h];exact a2⟩⟩
section
variable {α:Type} {c:Co α} {r:α -> α -> Prop} [hc:Oo c r] {b:Nat} {w w':World} {S:Nat -> Prop} {xs:List α} {v:Value}
theorem AE.siB(h:AE c w S xs v)(hs:EL b w w'):∃ys,FM r xs ys∧AE c w' S ys v:=by
 obtain⟨a,cap,h1,h2,h3,h4⟩:=h
 by_cases hl:0<xs.length
 ·obtain⟨d,off,h5,h6,h8⟩:=h4 hl
  obtain⟨ys,k1,k2⟩:=FM.pick (r:=fun i x y=>r x y∧∃us,c.rep w' S y us∧AP w' d (off+i*c.n) us) (xs:=xs) (s:=0) fun i x hx=>by
   obtain⟨us,h9,h10⟩:=h8 i x hx
   obtain⟨us',q1,q2⟩:=h10.siB hs
   obtain⟨y,p1,p2⟩:=hc.sim h9 hs q1
   exact⟨y,p1,us',p2,by rw [Nat.zero_add];exact q2⟩
  have get:∀i x,xs[i]? =some x->∃y,ys[i]? =some y:=fun i x hx=>⟨_,List.getElem?_eq_getElem (by have:=(List.getElem?_eq_some_iff.1 hx).1;omega)⟩
  refine⟨ys,⟨k1,fun i x y hx hy=>(k2 i x y hx hy).1⟩,a,cap,by rw [k1];exact h1,by rw [k1];exact h2,h3,fun _=>⟨d,off,h5,h6,fun i y hy=>?_⟩⟩
  have hx:xs[i]? =some (xs[i]'(by have:=(List.getElem?_eq_some_iff.1 hy).1;omega)):=List.getElem?_eq_getElem _
  have:=(k2 i _ y hx hy).2
  rwa [Nat.zero_add]at this
 ·obtain rfl:xs=[]:=List.eq_nil_of_length_eq_zero (by omega)
  exact⟨[],⟨rfl,fun i x y h=>by simp at h⟩,a,cap,h1,h2,h3,fun h=>absurd h hl⟩
theorem AC.siB{B:Nat}{e:TypeId}(h:AC c w B S e xs v)(hs:EL b w w')(hb:∀g,v.ownBlock=some g->g≠b):∃ys,FM r xs ys∧AC c w' B S e ys v:=by
 obtain⟨cs,h1,h2⟩:=h
 obtain⟨ys,k1,k2⟩:=FM.pick (r:=fun i x y=>r x y∧c.rep w' S y (BM cs c.n i)) (xs:=xs) (s:=0) fun i x hx=>by
  obtain⟨y,p1,p2⟩:=hc.sim (h2 i x hx) hs (ON.refl _)
  exact⟨y,p1,by rw [Nat.zero_add];exact p2⟩
 refine⟨ys,⟨k1,fun i x y hx hy=>(k2 i x y hx hy).1⟩,cs,by rw [k1];exact ownsRow.keep h1 (fun g hg=>hs.upd.block g (hb g hg)),fun i y hy=>?_⟩
 have hx:xs[i]? =some (xs[i]'(by have:=(List.getElem?_eq_some_iff.1 hy).1;omega)):=List.getElem?_eq_getElem _
 have:=(k2 i _ y hx hy).2
 rwa [Nat.zero_add]at this
theorem ON.part{us vs:List Value}(h:ON us vs)(m k:Nat):ON ((us.drop m).take k) ((vs.drop m).take k):=by
 obtain⟨h1,h2⟩:=h
 refine⟨by simp [h1],fun j u v hu hv=>?_⟩
 have hj:j<k:=by have:=(List.getElem?_eq_some_iff.1 hu).1;simp at this;omega
 rw [List.getElem?_take,if_pos hj,List.getElem?_drop]at hu hv
 exact h2 _ u v hu hv
theorem AC.siB2{B:Nat}{e:TypeId}(h:AC c w B S e xs v)(hs:EL b w w'):∃ys,FM r xs ys∧AC c w' B S e ys v:=by
 obtain⟨cs,h1,h2⟩:=h
 have key:∃cs',ON cs cs'∧w'.ownsRow B e c.n v xs.length cs':=by
  obtain⟨hl,⟨rfl,hn⟩|⟨g,cap,cur,rfl,hb,hh,h5,h6,h7,h8⟩⟩:=h1
  ·exact⟨cs,ON.refl _,hl,.inl ⟨rfl,hn⟩⟩
  ·by_cases e2:g=b
   ·subst e2
    obtain⟨cur',hh',hsi⟩:=hs.row cur e (0,0) hh
    have hsz:cur'.size=cur.size:=by have:=hsi.1;simpa using this.symm
    have sp:=hsi.part 0 cs.length
    rw [List.drop_zero,List.drop_zero]at sp
    have e3:cur.toList.take cs.length=cs:=by rw [hl];exact h8
    rw [e3]at sp
    refine⟨cur'.toList.take cs.length,sp,by rw [←sp.1];exact hl,.inr ⟨g,cap,cur',rfl,hb,hh',h5,h6,by rw [hsz];exact h7,by rw [hl]⟩⟩
   ·exact⟨cs,ON.refl _,hl,.inr ⟨g,cap,cur,rfl,hb,(hs.upd.block g e2).trans hh,h5,h6,h7,h8⟩⟩
 obtain⟨cs',k0,k1⟩:=key
 obtain⟨ys,p1,p2⟩:=FM.pick (r:=fun i x y=>r x y∧c.rep w' S y (BM cs' c.n i)) (xs:=xs) (s:=0) fun i x hx=>by
  obtain⟨y,q1,q2⟩:=hc.sim (h2 i x hx) hs (k0.part (i*c.n) c.n)
  exact⟨y,q1,by rw [Nat.zero_add];exact q2⟩
 refine⟨ys,⟨p1,fun i x y hx hy=>(p2 i x y hx hy).1⟩,cs',by rw [p1];exact k1,fun i y hy=>?_⟩
 have hx:xs[i]? =some (xs[i]'(by have:=(List.getElem?_eq_some_iff.1 hy).1;omega)):=List.getElem?_eq_getElem _
 have:=(p2 i _ y hx hy).2
 rwa [Nat.zero_add]at this
end
instance {α:Type}(c:Co α)(r:α->α->Prop)[Oo c r]:Oo (FQ c) (FM r):=⟨fun⟨v,e,h⟩ hs k=>by
 subst e;obtain⟨v',rfl,k2⟩:=k.one
 obtain⟨a,cap,rfl,_⟩:=id h
 obtain⟨ys,p1,p2⟩:=h.siB hs
 cases k2
 exact⟨ys,p1,_,rfl,p2⟩⟩
theorem AE.reg{α:Type}{c:Co α}[Cx c]{w w1:World}{S S1:Nat->Prop}{xs:List α}{v:Value}(h:AE c w S xs v)(h1:AE c w1 S1 xs v):AE c w (fun k=>S k∧S1 k) xs v:=by
 obtain⟨a,cap,rfl,h2,h3,h4⟩:=h
 obtain⟨a',cap',e,_,_,h4'⟩:=h1
 refine⟨a,cap,rfl,h2,h3,fun hl=>?_⟩
 obtain⟨b,off,h5,h6,h8⟩:=h4 hl
 obtain⟨b',off',h5',h6',_⟩:=h4' hl
 have ea:a=a':=by injection e
 have eb:b=b':=by rw [h5,h5']at ea;injection ea with ea;injection ea
 refine⟨b,off,h5,⟨h6,eb▸h6'⟩,fun i x hx=>?_⟩
 obtain⟨us,h9,h10⟩:=h8 i x hx
 exact⟨us,Cx.any h9,h10⟩
/-! ## A number is written into what is read -/
section
variable {P:Program} {N:Nat} {o:Oper} {K:KL} {w:World}
theorem KG{t b off o0:Nat}{us:List Value}{k:IntKind}{m0 m1:Int}(j:Nat)(h:aV K o.op=some (t,b,off,.int k m1))(hcl:AP w b o0 us)(hj:off=o0+j)(hu:us[j]? =some (.int k m0))(hn:BX P t=some 1):JY P N K o w (fun _ w'=>EL b w w'):=by
 obtain⟨x,y,ho,hx,hy⟩:=Qi h
 have hcell:=hcl j _ hu
 rw [←hj]at hcell
 obtain⟨hcell,hfro⟩:=hcell
 have hlt:b<w.heap.size:=World.block_lt_of_cell? _ _ hcell
 obtain⟨cur,ty,fz,hrow,hcur⟩:∃cur ty fz,w.heap[b]? =some (.cells cur ty fz)∧cur[off]? =some (.int k m0):=by
  unfold World.cell? at hcell
  split at hcell
  ·rename_i cur ty fz hrow
   exact⟨cur,ty,fz,hrow,by simpa using hcell⟩
  ·cases hcell
 intro a hK Kt Q hk
 obtain⟨ti,hi,hsz⟩:=Option.map_eq_some_iff.1 hn
 have hc:(Value.int k m1).cells.toList=[.int k m1]:=rfl
 have hst:(storeCells ⟨b,off,none⟩ (Value.int k m1).cells.toList 0).run P w= .ok () (w.setRow b (cur.setIfInBounds off (.int k m1))):=by
  rw [hc]
  have hadd:(⟨b,off,none⟩:Addr).add 0=⟨b,off,none⟩:=by simp [Addr.add]
  simp only [storeCells,Sem.run_bind,hadd]
  rw [run_store P w _ (.int k m1) _ rfl,hcell]
  simp [hfro,setCell_eq_setRow w b off cur ty fz (.int k m1) hrow]
 have hl1:(Value.int k m1).cells.size=1:=by have:=congrArg List.length hc;simpa using this
 have hr:(execOp a.eval o).run P w= .ok .skip (w.setRow b (cur.setIfInBounds off (.int k m1))):=by
  simp [execOp,ho,hK.ev hx,hK.ev hy,Instr.storeAt,Instr.sureAddr,storeVar,Sem.run_bind,sizeOf,typeInfo,hi,hsz,hl1]at hst ⊢
  rw [hst]
  simp
 unfold Oper.wp
 rw [hr]
 have hu2:=GU.setRow w b (cur.setIfInBounds off (.int k m1))
 have hrow2:=setRow_heap w b cur (cur.setIfInBounds off (.int k m1)) ty fz hrow
 refine hk _ _ ⟨hu2,fun d q x hd=>?_,fun d q hl hf=>?_,fun c0 t0 f0 hd=>?_⟩
 ·by_cases e:d=b
  ·subst e
   rw [cell_of_row w d q cur ty fz hrow]at hd
   rw [cell_of_row _ d q _ ty fz hrow2]
   by_cases e2:off=q
   ·subst e2
    rw [hcur]at hd
    obtain rfl:=Option.some.inj hd
    have:=(Array.getElem?_eq_some_iff.1 hcur).1
    exact⟨.int k m1,by simp [this],.int _ _ _⟩
   ·exact⟨x,by rw [Array.getElem?_setIfInBounds_ne e2];exact hd,.refl _⟩
  ·exact⟨x,by rw [World.cell?_of_block (w:=w) (hu2.block d e)];exact hd,.refl _⟩
 ·by_cases e:d=b
  ·subst e
   simp only [World.frozen?,hrow,hrow2]at hf ⊢
   exact hf
  ·rw [Eo (hu2.block d e)];exact hf
 ·rw [hrow]at hd
  injection hd with hd;injection hd with e1 e2 e3
  subst e1 e2 e3
  refine⟨_,hrow2,by simp,fun j u v hu hv=>?_⟩
  simp only [Array.getElem?_toList]at hu hv
  by_cases e4:off=j
  ·subst e4
   rw [hcur]at hu
   obtain rfl:=Option.some.inj hu
   have:=(Array.getElem?_eq_some_iff.1 hcur).1
   rw [Array.getElem?_setIfInBounds_self_of_lt this]at hv
   obtain rfl:=Option.some.inj hv
   exact .int _ _ _
  ·rw [Array.getElem?_setIfInBounds_ne e4,hu]at hv
   obtain rfl:=Option.some.inj hv
   exact .refl _
end
/-! ## What a slice's elements lead to, but for the blocks of one kind -/
def Gu(w:World)(k:Nat):Option TypeId:=match w.heap[k]? with
 |some (.cells _ e _)=>some e
 |_=>none
def RT(w:World)(B hi:Nat)(v:Value)(tx:TypeId):Nat->Prop:=fun k=>SX B hi v k∧Gu w k≠some tx
def CE{α:Type}(c:Co α)(w:World)(B hi:Nat)(e:TypeId)(xs:List α)(v:Value)(tx:TypeId):Prop:=AC c w B (RT w B hi v tx) e xs v
theorem Gu.same{w w':World}{k:Nat}(h:w'.heap[k]? =w.heap[k]?):Gu w' k=Gu w k:=by unfold Gu;rw [h]
section
variable {α:Type} {c:Co α} {w w':World} {B hi:Nat} {e tx:TypeId} {xs:List α} {v:Value}
theorem AC.tag{S:Nat->Prop}(h:AC c w B S e xs v):∀g,v.ownBlock=some g->Gu w g=some e:=by
 obtain⟨cs,⟨_,⟨rfl,_⟩|⟨g,cap,cur,rfl,hb,hh,_⟩⟩,_⟩:=h
 ·intro g hg;cases hg
 ·intro q hq
  have:g=q:=Option.some.inj hq
  subst this
  simp only [Gu,hh]
theorem CE.sx(h:CE c w B hi e xs v tx):AC c w B (SX B hi v) e xs v:=AC.keep h (fun _ _=>rfl) (fun _ k=>k.1) (fun _ _=>rfl)
theorem CE.keep(h:CE c w B hi e xs v tx)(h1:∀g,v.ownBlock=some g->w'.heap[g]? =w.heap[g]?)(h2:∀k,RT w B hi v tx k->w'.heap[k]? =w.heap[k]?):CE c w' B hi e xs v tx:=
 AC.keep h h1 (fun k q=>⟨q.1,by rw [Gu.same (h2 k q)];exact q.2⟩) h2
theorem CE.ext(h:CE c w B hi e xs v tx)(he:AS w w')(hle:hi<=w.heap.size):CE c w' B hi e xs v tx:=
 h.keep (fun g hg=>he.block g (AC.blk h g hg).2) (fun k q=>he.block k (by have:=q.1.2.1;omega))
theorem CE.upd{b:Nat}(h:CE c w B hi e xs v tx)(hu:GU b w w')(hne:∀g,v.ownBlock=some g->g≠b)(hb:b<B∨hi<=b:=by omega):CE c w' B hi e xs v tx:=
 h.keep (fun g hg=>hu.block g (hne g hg)) (fun k q=>hu.block k (by have:=q.1.1;have:=q.1.2.1;omega))
theorem CE.but{p:Nat->Prop}(h:CE c w B hi e xs v tx)(hb:Af p w w')(hne:∀k,p k->∀g,v.ownBlock=some g->k≠g)(hle:hi<=w.heap.size)(hs:∀k,p k->k<B∨hi<=k):CE c w' B hi e xs v tx:=
 h.keep (fun g hg=>hb.block g (AC.blk h g hg).2 (fun e=>hne g e g hg rfl)) (fun k q=>hb.block k (by have:=q.1.2.1;omega) (fun e=>by have:=hs k e;have:=q.1.1;have:=q.1.2.1;omega))
theorem CE.grewI{t t':Value}(hg:AO w w' t t')(h:CE c w B hi e xs v tx)(hne:∀g q,t.ownBlock=some g->v.ownBlock=some q->g≠q)(hle:hi<=w.heap.size)(hs:∀g,t.ownBlock=some g->g<B∨hi<=g):CE c w' B hi e xs v tx:=
 h.keep (fun g hv=>hg.1.block g (AC.blk h g hv).2 (fun e=>hne g g e.symm hv rfl)) (fun k q=>hg.1.block k (by have:=q.1.2.1;omega) (fun e=>by have:=hs k e.symm;have:=q.1.1;have:=q.1.2.1;omega))
theorem CE.grewT{t t':Value}(hg:AO w w' t t')(h:CE c w B hi e xs v tx)(hne:∀g q,t.ownBlock=some g->v.ownBlock=some q->g≠q)(hle:hi<=w.heap.size)(ht:∀g,t.ownBlock=some g->Gu w g=some tx):CE c w' B hi e xs v tx:=
 h.keep (fun g hv=>hg.1.block g (AC.blk h g hv).2 (fun e=>hne g g e.symm hv rfl)) (fun k q=>hg.1.block k (by have:=q.1.2.1;omega) (fun e=>q.2 (ht k e.symm)))
theorem CE.wide{hi':Nat}(h:CE c w B hi e xs v tx)(hle:hi<=hi':=by omega):CE c w B hi' e xs v tx:=
 AC.keep h (fun _ _=>rfl) (fun k q=>⟨⟨q.1.1,by have:=q.1.2.1;omega,q.1.2.2⟩,q.2⟩) (fun _ _=>rfl)
theorem CE.base{B':Nat}(h:CE c w B hi e xs v tx)(hB:B'<=B):CE c w B' hi e xs v tx:=
 AC.keep (AC.base h hB) (fun _ _=>rfl) (fun k q=>⟨⟨by have:=q.1.1;omega,q.1.2⟩,q.2⟩) (fun _ _=>rfl)
theorem CE.nil{S:Nat->Prop}(h:AC c w B S e [] v):CE c w B hi e [] v tx:=by
 obtain⟨cs,h1,_⟩:=h
 exact⟨cs,h1,fun i x hx=>by simp at hx⟩
theorem AC.slT{lo hi2:Nat}(h:AC c w B (Iv 0 0) e xs v)(hb:Bd v lo hi2)(hne:e≠tx):AE c w (fun k=>Iv lo hi2 k∧Gu w k≠some tx) xs v:=
 h.slG (fun k q=>absurd q.2 (Nat.not_lt_zero k)) (fun g hg=>⟨hb g hg,by rw [h.tag g hg];exact fun e2=>hne (Option.some.inj e2)⟩)
theorem AC.litT{g k k2 lo hi2:Nat}{u:Value}{w0:World}(h:AC c w g (fun k=>Iv lo hi2 k∧Gu w0 k≠some tx) e xs u)(hu:u= .slice (some ⟨g,0,none⟩) k k2)(h1:lo<=g)(h2:hi2<=g)(hg:g=w0.heap.size)(he:AS w0 w):CE c w lo g e xs u tx:=
 AC.keep (h.base h1) (fun _ _=>rfl) (fun q hq=>⟨⟨hq.1.1,by have:=hq.1.2;omega,fun e=>by
  subst hu
  have h3:g=q:=Option.some.inj e
  have:=hq.1.2;omega⟩,by rw [Gu.same (he.block q (by have:=hq.1.2;omega))];exact hq.2⟩) (fun _ _=>rfl)
end
section
variable {P:Program} {N:Nat} {K:KL} {o:Oper} {α:Type} {c:Co α} {w:World} {B hi B2 hi2:Nat} {e tx:TypeId} {xs ys zs:List α} {v u:Value}
theorem PK{t x y zc sz by'}(ho:o.op= .call { callee:=.builtin .append,args:=#[x,y],argTypes:=#[t,t] })(hu:P.underlying t=some (.slice e))(hi1:DL P e=some (zc,sz,by'))(hsz:sz=c.n)(hzc:zc.length=sz)
 (hpos:Nat.blt 0 c.n=true) (hx:CK K x=some v) (hy:CK K y=some u) (hs:CE c w B hi e xs v tx) (hb:B<=w.heap.size) (hle:hi<=w.heap.size) (h2:CE c w B2 hi2 e ys u tx) (hB:B<=B2) (hh:hi2<=w.heap.size) (het:e≠tx) (hne:∀g,v.ownBlock=some g->g<B2) (ha:Bk xs ys by'=some zs):
 JY P N K o w (fun v' w'=>CE c w' B w.heap.size e zs v' tx∧AO w w' v v'):=by
 have hr:AE c w (fun k=>(B2<=k∧k<w.heap.size)∧Gu w k≠some tx) ys u:=
  AC.slG h2 (fun k q=>⟨⟨q.1.1,by have:=q.1.2.1;omega⟩,q.2⟩) (fun g hg=>⟨AC.blk h2 g hg,by rw [AC.tag h2 g hg];exact fun e2=>het (Option.some.inj e2)⟩)
 intro a hK Kt Q hk
 refine LI (S':=RT w B w.heap.size v tx) ho hu hi1 hsz hzc hpos hx hy hs hb hr ha (fun k q=>⟨⟨q.1.1,by have:=q.1.2.1;omega,q.1.2.2⟩,q.2⟩)
  (fun _ _ h=>c.mono h (fun k q=>⟨⟨by have:=q.1.1;omega,q.1.2,fun e=>by have:=hne k e;have:=q.1.1;omega⟩,q.2⟩) (fun _ _=>rfl)) (fun k q=>⟨q.1.2.1,q.1.2.2⟩) a hK Kt Q ?_
 rintro v' w' ⟨h3,h4⟩
 refine hk v' w' ⟨h3.keep (fun _ _=>rfl) (fun k q=>⟨⟨q.1.1,q.1.2.1,fun e=>?_⟩,?_⟩) (fun _ _=>rfl),h4⟩
 ·rcases h4.2 k e with h5|h5
  ·exact q.1.2.2 h5
  ·have:=q.1.2.1;omega
 ·rw [Gu.same (h4.1.block k q.1.2.1 (fun e=>q.1.2.2 e.symm))];exact q.2
end
/-! ## Functions that are handed what is to be done with their result: whatever it be -/
structure Lk where
 any:{α:Type}->(α->Prop)->(α->Option Unit)->Option Unit
 out:∀{α:Type} {p:α->Prop} {f:α->Option Unit},any p f=some ()->∀x,p x->f x=some ()
 inn:∀{α:Type} {p:α->Prop} {f:α->Option Unit},(∀x,p x->f x=some ())->any p f=some ()
theorem UP{O:Lk}{α:Type}{p:α->Prop}{f:α->Option Unit}(h:O.any p f=some ())(x:α)(hx:p x):f x=some ():=O.out h x hx
theorem eS{P:Program}{f:FuncId}{vs:Array Value}{w:World}(h:Calls P f vs w (Dy fun u w2=>∃r:Bool,u= .bool r∧AS w w2∧(bif r then some ()else none)=some ())):Calls P f vs w (Dy fun u w2=>u= .bool true∧AS w w2):=
 Calls.mono h fun e w2 ⟨v,h1,r,h2,h3,h4⟩=>⟨v,h1,(match r,h2,h4 with|true,h2,_=>h2|false,_,h4=>nomatch h4),h3⟩
theorem Lk.is:Nonempty Lk:=by
 classical
 exact⟨⟨fun p f=>if∀x,p x->f x=some ()then some ()else none,(fun h=>by
  split at h
  ·rename_i q;exact q
  ·cases h),fun h=>if_pos h⟩⟩
end Go.Eng
namespace Go.Eng
open Go Go.RowKit
/-! ## Facts that move on together -/
class Mv(w w':World)(A:Prop)(A':outParam Prop)(S:outParam Prop):Prop where
 mv:A->S->AS w w'->A'
class Mu(b:Nat)(w w':World)(A:Prop)(A':outParam Prop)(S:outParam Prop):Prop where
 mv:A->S->GU b w w'->A'
class Mb(b:Nat)(w w':World)(A:Prop)(A':outParam Prop)(S:outParam Prop):Prop where
 mv:A->S->Af (pB b) w w'->A'
section
variable {w w':World} {b d lo hi B:Nat} {us:List Value} {t e e1 e2 tx:TypeId} {α:Type} {c:Co α} {xs:List α} {xss:List (List α)} {v:Value} {vs:List Value}
instance:Mv w w' (Ak w d us t) (Ak w' d us t) True:=⟨fun h _ k=>h.ext k⟩
instance [Cx c]:Mv w w' (AC c w B (Iv 0 0) e xs v) (AC c w' B (Iv 0 0) e xs v) True:=⟨fun h _ k=>AC.ext h k⟩
instance:Mv w w' (AE c w (Iv lo hi) xs v) (AE c w' (Iv lo hi) xs v) (hi<=w.heap.size):=⟨fun h s k=>h.old k s⟩
instance:Mv w w' (AC c w B (SX B hi v) e xs v) (AC c w' B (SX B hi v) e xs v) (hi<=w.heap.size):=⟨fun h s k=>AC.extN h k s⟩
instance:Mv w w' (CE c w B hi e xs v tx) (CE c w' B hi e xs v tx) (hi<=w.heap.size):=⟨fun h s k=>CE.ext h k s⟩
instance [Cx c]:Mv w w' (own2 c w B hi e1 e2 xss v vs) (own2 c w' B hi e1 e2 xss v vs) (hi<=w.heap.size):=⟨fun h s k=>own2.ext h k s⟩
instance:Mu b w w' (Ak w d us t) (Ak w' d us t) (d≠b):=⟨fun h s k=>h.upd k s⟩
instance:Mu b w w' (AE c w (Iv lo hi) xs v) (AE c w' (Iv lo hi) xs v) (b<lo∨hi<=b):=⟨fun h s k=>AE.upd h k s⟩
instance:Mb b w w' (Ak w d us t) (Ak w' d us t) (b≠d):=⟨fun h s k=>Ak.but h k (AK s)⟩
instance:Mb b w w' (AE c w (Iv lo hi) xs v) (AE c w' (Iv lo hi) xs v) ((b<lo∨hi<=b)∧hi<=w.heap.size):=⟨fun h s k=>AE.but h k (AK s.1) s.2⟩
end
theorem Bq{w w':World}{P1 Q1 S1 P2 Q2 S2:Prop}[i1:Mv w w' P1 Q1 S1][i2:Mv w w' P2 Q2 S2](h1:P1)(h2:P2)(k:AS w w')(s1:S1:=by and_intros<;>first|trivial|omega)(s2:S2:=by and_intros<;>first|trivial|omega):Q1∧Q2:=⟨i1.mv h1 s1 k,i2.mv h2 s2 k⟩
theorem DH{w w':World}{P1 Q1 S1 P2 Q2 S2 P3 Q3 S3:Prop}[i1:Mv w w' P1 Q1 S1][i2:Mv w w' P2 Q2 S2][i3:Mv w w' P3 Q3 S3](h1:P1)(h2:P2)(h3:P3)(k:AS w w')(s1:S1:=by and_intros<;>first|trivial|omega)(s2:S2:=by and_intros<;>first|trivial|omega)(s3:S3:=by and_intros<;>first|trivial|omega):Q1∧Q2∧Q3:=⟨i1.mv h1 s1 k,i2.mv h2 s2 k,i3.mv h3 s3 k⟩
theorem DK{w w':World}{P1 Q1 S1 P2 Q2 S2 P3 Q3 S3 P4 Q4 S4:Prop}[i1:Mv w w' P1 Q1 S1][i2:Mv w w' P2 Q2 S2][i3:Mv w w' P3 Q3 S3][i4:Mv w w' P4 Q4 S4](h1:P1)(h2:P2)(h3:P3)(h4:P4)(k:AS w w')(s1:S1:=by and_intros<;>first|trivial|omega)(s2:S2:=by and_intros<;>first|trivial|omega)(s3:S3:=by and_intros<;>first|trivial|omega)(s4:S4:=by and_intros<;>first|trivial|omega):Q1∧Q2∧Q3∧Q4:=⟨i1.mv h1 s1 k,i2.mv h2 s2 k,i3.mv h3 s3 k,i4.mv h4 s4 k⟩
theorem FU{w w':World}{P1 Q1 S1 P2 Q2 S2 P3 Q3 S3 P4 Q4 S4 P5 Q5 S5:Prop}[i1:Mv w w' P1 Q1 S1][i2:Mv w w' P2 Q2 S2][i3:Mv w w' P3 Q3 S3][i4:Mv w w' P4 Q4 S4][i5:Mv w w' P5 Q5 S5](h1:P1)(h2:P2)(h3:P3)(h4:P4)(h5:P5)(k:AS w w')(s1:S1:=by and_intros<;>first|trivial|omega)(s2:S2:=by and_intros<;>first|trivial|omega)(s3:S3:=by and_intros<;>first|trivial|omega)(s4:S4:=by and_intros<;>first|trivial|omega)(s5:S5:=by and_intros<;>first|trivial|omega):Q1∧Q2∧Q3∧Q4∧Q5:=⟨i1.mv h1 s1 k,i2.mv h2 s2 k,i3.mv h3 s3 k,i4.mv h4 s4 k,i5.mv h5 s5 k⟩
theorem GX{w w':World}{P1 Q1 S1 P2 Q2 S2 P3 Q3 S3 P4 Q4 S4 P5 Q5 S5 P6 Q6 S6:Prop}[i1:Mv w w' P1 Q1 S1][i2:Mv w w' P2 Q2 S2][i3:Mv w w' P3 Q3 S3][i4:Mv w w' P4 Q4 S4][i5:Mv w w' P5 Q5 S5][i6:Mv w w' P6 Q6 S6](h1:P1)(h2:P2)(h3:P3)(h4:P4)(h5:P5)(h6:P6)(k:AS w w')(s1:S1:=by and_intros<;>first|trivial|omega)(s2:S2:=by and_intros<;>first|trivial|omega)(s3:S3:=by and_intros<;>first|trivial|omega)(s4:S4:=by and_intros<;>first|trivial|omega)(s5:S5:=by and_intros<;>first|trivial|omega)(s6:S6:=by and_intros<;>first|trivial|omega):Q1∧Q2∧Q3∧Q4∧Q5∧Q6:=⟨i1.mv h1 s1 k,i2.mv h2 s2 k,i3.mv h3 s3 k,i4.mv h4 s4 k,i5.mv h5 s5 k,i6.mv h6 s6 k⟩
theorem GP{w w':World}{P1 Q1 S1 P2 Q2 S2 P3 Q3 S3 P4 Q4 S4 P5 Q5 S5 P6 Q6 S6 P7 Q7 S7:Prop}[i1:Mv w w' P1 Q1 S1][i2:Mv w w' P2 Q2 S2][i3:Mv w w' P3 Q3 S3][i4:Mv w w' P4 Q4 S4][i5:Mv w w' P5 Q5 S5][i6:Mv w w' P6 Q6 S6][i7:Mv w w' P7 Q7 S7](h1:P1)(h2:P2)(h3:P3)(h4:P4)(h5:P5)(h6:P6)(h7:P7)(k:AS w w')(s1:S1:=by and_intros<;>first|trivial|omega)(s2:S2:=by and_intros<;>first|trivial|omega)(s3:S3:=by and_intros<;>first|trivial|omega)(s4:S4:=by and_intros<;>first|trivial|omega)(s5:S5:=by and_intros<;>first|trivial|omega)(s6:S6:=by and_intros<;>first|trivial|omega)(s7:S7:=by and_intros<;>first|trivial|omega):Q1∧Q2∧Q3∧Q4∧Q5∧Q6∧Q7:=⟨i1.mv h1 s1 k,i2.mv h2 s2 k,i3.mv h3 s3 k,i4.mv h4 s4 k,i5.mv h5 s5 k,i6.mv h6 s6 k,i7.mv h7 s7 k⟩
theorem Cg{w w':World}{P1 Q1 S1 P2 Q2 S2 P3 Q3 S3 P4 Q4 S4 P5 Q5 S5 P6 Q6 S6 P7 Q7 S7 P8 Q8 S8:Prop}[i1:Mv w w' P1 Q1 S1][i2:Mv w w' P2 Q2 S2][i3:Mv w w' P3 Q3 S3][i4:Mv w w' P4 Q4 S4][i5:Mv w w' P5 Q5 S5][i6:Mv w w' P6 Q6 S6][i7:Mv w w' P7 Q7 S7][i8:Mv w w' P8 Q8 S8](h1:P1)(h2:P2)(h3:P3)(h4:P4)(h5:P5)(h6:P6)(h7:P7)(h8:P8)(k:AS w w')(s1:S1:=by and_intros<;>first|trivial|omega)(s2:S2:=by and_intros<;>first|trivial|omega)(s3:S3:=by and_intros<;>first|trivial|omega)(s4:S4:=by and_intros<;>first|trivial|omega)(s5:S5:=by and_intros<;>first|trivial|omega)(s6:S6:=by and_intros<;>first|trivial|omega)(s7:S7:=by and_intros<;>first|trivial|omega)(s8:S8:=by and_intros<;>first|trivial|omega):Q1∧Q2∧Q3∧Q4∧Q5∧Q6∧Q7∧Q8:=⟨i1.mv h1 s1 k,i2.mv h2 s2 k,i3.mv h3 s3 k,i4.mv h4 s4 k,i5.mv h5 s5 k,i6.mv h6 s6 k,i7.mv h7 s7 k,i8.mv h8 s8 k⟩
theorem MW{w w':World}{b:Nat}{P1 Q1 S1 P2 Q2 S2:Prop}[i1:Mu b w w' P1 Q1 S1][i2:Mu b w w' P2 Q2 S2](h1:P1)(h2:P2)(k:GU b w w')(s1:S1:=by and_intros<;>first|trivial|omega)(s2:S2:=by and_intros<;>first|trivial|omega):Q1∧Q2:=⟨i1.mv h1 s1 k,i2.mv h2 s2 k⟩
theorem EG{w w':World}{b:Nat}{P1 Q1 S1 P2 Q2 S2 P3 Q3 S3:Prop}[i1:Mu b w w' P1 Q1 S1][i2:Mu b w w' P2 Q2 S2][i3:Mu b w w' P3 Q3 S3](h1:P1)(h2:P2)(h3:P3)(k:GU b w w')(s1:S1:=by and_intros<;>first|trivial|omega)(s2:S2:=by and_intros<;>first|trivial|omega)(s3:S3:=by and_intros<;>first|trivial|omega):Q1∧Q2∧Q3:=⟨i1.mv h1 s1 k,i2.mv h2 s2 k,i3.mv h3 s3 k⟩
theorem Hx{w w':World}{b:Nat}{P1 Q1 S1 P2 Q2 S2 P3 Q3 S3 P4 Q4 S4:Prop}[i1:Mu b w w' P1 Q1 S1][i2:Mu b w w' P2 Q2 S2][i3:Mu b w w' P3 Q3 S3][i4:Mu b w w' P4 Q4 S4](h1:P1)(h2:P2)(h3:P3)(h4:P4)(k:GU b w w')(s1:S1:=by and_intros<;>first|trivial|omega)(s2:S2:=by and_intros<;>first|trivial|omega)(s3:S3:=by and_intros<;>first|trivial|omega)(s4:S4:=by and_intros<;>first|trivial|omega):Q1∧Q2∧Q3∧Q4:=⟨i1.mv h1 s1 k,i2.mv h2 s2 k,i3.mv h3 s3 k,i4.mv h4 s4 k⟩
theorem Lm{w w':World}{b:Nat}{P1 Q1 S1 P2 Q2 S2 P3 Q3 S3 P4 Q4 S4 P5 Q5 S5:Prop}[i1:Mu b w w' P1 Q1 S1][i2:Mu b w w' P2 Q2 S2][i3:Mu b w w' P3 Q3 S3][i4:Mu b w w' P4 Q4 S4][i5:Mu b w w' P5 Q5 S5](h1:P1)(h2:P2)(h3:P3)(h4:P4)(h5:P5)(k:GU b w w')(s1:S1:=by and_intros<;>first|trivial|omega)(s2:S2:=by and_intros<;>first|trivial|omega)(s3:S3:=by and_intros<;>first|trivial|omega)(s4:S4:=by and_intros<;>first|trivial|omega)(s5:S5:=by and_intros<;>first|trivial|omega):Q1∧Q2∧Q3∧Q4∧Q5:=⟨i1.mv h1 s1 k,i2.mv h2 s2 k,i3.mv h3 s3 k,i4.mv h4 s4 k,i5.mv h5 s5 k⟩
theorem Pn{w w':World}{b:Nat}{P1 Q1 S1 P2 Q2 S2 P3 Q3 S3 P4 Q4 S4 P5 Q5 S5 P6 Q6 S6:Prop}[i1:Mu b w w' P1 Q1 S1][i2:Mu b w w' P2 Q2 S2][i3:Mu b w w' P3 Q3 S3][i4:Mu b w w' P4 Q4 S4][i5:Mu b w w' P5 Q5 S5][i6:Mu b w w' P6 Q6 S6](h1:P1)(h2:P2)(h3:P3)(h4:P4)(h5:P5)(h6:P6)(k:GU b w w')(s1:S1:=by and_intros<;>first|trivial|omega)(s2:S2:=by and_intros<;>first|trivial|omega)(s3:S3:=by and_intros<;>first|trivial|omega)(s4:S4:=by and_intros<;>first|trivial|omega)(s5:S5:=by and_intros<;>first|trivial|omega)(s6:S6:=by and_intros<;>first|trivial|omega):Q1∧Q2∧Q3∧Q4∧Q5∧Q6:=⟨i1.mv h1 s1 k,i2.mv h2 s2 k,i3.mv h3 s3 k,i4.mv h4 s4 k,i5.mv h5 s5 k,i6.mv h6 s6 k⟩
theorem LG{w w':World}{b:Nat}{P1 Q1 S1 P2 Q2 S2 P3 Q3 S3 P4 Q4 S4 P5 Q5 S5 P6 Q6 S6 P7 Q7 S7:Prop}[i1:Mu b w w' P1 Q1 S1][i2:Mu b w w' P2 Q2 S2][i3:Mu b w w' P3 Q3 S3][i4:Mu b w w' P4 Q4 S4][i5:Mu b w w' P5 Q5 S5][i6:Mu b w w' P6 Q6 S6][i7:Mu b w w' P7 Q7 S7](h1:P1)(h2:P2)(h3:P3)(h4:P4)(h5:P5)(h6:P6)(h7:P7)(k:GU b w w')(s1:S1:=by and_intros<;>first|trivial|omega)(s2:S2:=by and_intros<;>first|trivial|omega)(s3:S3:=by and_intros<;>first|trivial|omega)(s4:S4:=by and_intros<;>first|trivial|omega)(s5:S5:=by and_intros<;>first|trivial|omega)(s6:S6:=by and_intros<;>first|trivial|omega)(s7:S7:=by and_intros<;>first|trivial|omega):Q1∧Q2∧Q3∧Q4∧Q5∧Q6∧Q7:=⟨i1.mv h1 s1 k,i2.mv h2 s2 k,i3.mv h3 s3 k,i4.mv h4 s4 k,i5.mv h5 s5 k,i6.mv h6 s6 k,i7.mv h7 s7 k⟩
theorem GH{w w':World}{b:Nat}{P1 Q1 S1 P2 Q2 S2 P3 Q3 S3 P4 Q4 S4 P5 Q5 S5 P6 Q6 S6 P7 Q7 S7 P8 Q8 S8:Prop}[i1:Mu b w w' P1 Q1 S1][i2:Mu b w w' P2 Q2 S2][i3:Mu b w w' P3 Q3 S3][i4:Mu b w w' P4 Q4 S4][i5:Mu b w w' P5 Q5 S5][i6:Mu b w w' P6 Q6 S6][i7:Mu b w w' P7 Q7 S7][i8:Mu b w w' P8 Q8 S8](h1:P1)(h2:P2)(h3:P3)(h4:P4)(h5:P5)(h6:P6)(h7:P7)(h8:P8)(k:GU b w w')(s1:S1:=by and_intros<;>first|trivial|omega)(s2:S2:=by and_intros<;>first|trivial|omega)(s3:S3:=by and_intros<;>first|trivial|omega)(s4:S4:=by and_intros<;>first|trivial|omega)(s5:S5:=by and_intros<;>first|trivial|omega)(s6:S6:=by and_intros<;>first|trivial|omega)(s7:S7:=by and_intros<;>first|trivial|omega)(s8:S8:=by and_intros<;>first|trivial|omega):Q1∧Q2∧Q3∧Q4∧Q5∧Q6∧Q7∧Q8:=⟨i1.mv h1 s1 k,i2.mv h2 s2 k,i3.mv h3 s3 k,i4.mv h4 s4 k,i5.mv h5 s5 k,i6.mv h6 s6 k,i7.mv h7 s7 k,i8.mv h8 s8 k⟩
theorem GT{w w':World}{b:Nat}{P1 Q1 S1 P2 Q2 S2:Prop}[i1:Mb b w w' P1 Q1 S1][i2:Mb b w w' P2 Q2 S2](h1:P1)(h2:P2)(k:Af (pB b) w w')(s1:S1:=by and_intros<;>first|trivial|omega)(s2:S2:=by and_intros<;>first|trivial|omega):Q1∧Q2:=⟨i1.mv h1 s1 k,i2.mv h2 s2 k⟩
theorem GS{w w':World}{b:Nat}{P1 Q1 S1 P2 Q2 S2 P3 Q3 S3:Prop}[i1:Mb b w w' P1 Q1 S1][i2:Mb b w w' P2 Q2 S2][i3:Mb b w w' P3 Q3 S3](h1:P1)(h2:P2)(h3:P3)(k:Af (pB b) w w')(s1:S1:=by and_intros<;>first|trivial|omega)(s2:S2:=by and_intros<;>first|trivial|omega)(s3:S3:=by and_intros<;>first|trivial|omega):Q1∧Q2∧Q3:=⟨i1.mv h1 s1 k,i2.mv h2 s2 k,i3.mv h3 s3 k⟩
theorem KP{w w':World}{b:Nat}{P1 Q1 S1 P2 Q2 S2 P3 Q3 S3 P4 Q4 S4:Prop}[i1:Mb b w w' P1 Q1 S1][i2:Mb b w w' P2 Q2 S2][i3:Mb b w w' P3 Q3 S3][i4:Mb b w w' P4 Q4 S4](h1:P1)(h2:P2)(h3:P3)(h4:P4)(k:Af (pB b) w w')(s1:S1:=by and_intros<;>first|trivial|omega)(s2:S2:=by and_intros<;>first|trivial|omega)(s3:S3:=by and_intros<;>first|trivial|omega)(s4:S4:=by and_intros<;>first|trivial|omega):Q1∧Q2∧Q3∧Q4:=⟨i1.mv h1 s1 k,i2.mv h2 s2 k,i3.mv h3 s3 k,i4.mv h4 s4 k⟩
theorem Vj{w w':World}{b:Nat}{P1 Q1 S1 P2 Q2 S2 P3 Q3 S3 P4 Q4 S4 P5 Q5 S5:Prop}[i1:Mb b w w' P1 Q1 S1][i2:Mb b w w' P2 Q2 S2][i3:Mb b w w' P3 Q3 S3][i4:Mb b w w' P4 Q4 S4][i5:Mb b w w' P5 Q5 S5](h1:P1)(h2:P2)(h3:P3)(h4:P4)(h5:P5)(k:Af (pB b) w w')(s1:S1:=by and_intros<;>first|trivial|omega)(s2:S2:=by and_intros<;>first|trivial|omega)(s3:S3:=by and_intros<;>first|trivial|omega)(s4:S4:=by and_intros<;>first|trivial|omega)(s5:S5:=by and_intros<;>first|trivial|omega):Q1∧Q2∧Q3∧Q4∧Q5:=⟨i1.mv h1 s1 k,i2.mv h2 s2 k,i3.mv h3 s3 k,i4.mv h4 s4 k,i5.mv h5 s5 k⟩
theorem Wv{w w':World}{b:Nat}{P1 Q1 S1 P2 Q2 S2 P3 Q3 S3 P4 Q4 S4 P5 Q5 S5 P6 Q6 S6:Prop}[i1:Mb b w w' P1 Q1 S1][i2:Mb b w w' P2 Q2 S2][i3:Mb b w w' P3 Q3 S3][i4:Mb b w w' P4 Q4 S4][i5:Mb b w w' P5 Q5 S5][i6:Mb b w w' P6 Q6 S6](h1:P1)(h2:P2)(h3:P3)(h4:P4)(h5:P5)(h6:P6)(k:Af (pB b) w w')(s1:S1:=by and_intros<;>first|trivial|omega)(s2:S2:=by and_intros<;>first|trivial|omega)(s3:S3:=by and_intros<;>first|trivial|omega)(s4:S4:=by and_intros<;>first|trivial|omega)(s5:S5:=by and_intros<;>first|trivial|omega)(s6:S6:=by and_intros<;>first|trivial|omega):Q1∧Q2∧Q3∧Q4∧Q5∧Q6:=⟨i1.mv h1 s1 k,i2.mv h2 s2 k,i3.mv h3 s3 k,i4.mv h4 s4 k,i5.mv h5 s5 k,i6.mv h6 s6 k⟩
theorem SQ{w w':World}{b:Nat}{P1 Q1 S1 P2 Q2 S2 P3 Q3 S3 P4 Q4 S4 P5 Q5 S5 P6 Q6 S6 P7 Q7 S7:Prop}[i1:Mb b w w' P1 Q1 S1][i2:Mb b w w' P2 Q2 S2][i3:Mb b w w' P3 Q3 S3][i4:Mb b w w' P4 Q4 S4][i5:Mb b w w' P5 Q5 S5][i6:Mb b w w' P6 Q6 S6][i7:Mb b w w' P7 Q7 S7](h1:P1)(h2:P2)(h3:P3)(h4:P4)(h5:P5)(h6:P6)(h7:P7)(k:Af (pB b) w w')(s1:S1:=by and_intros<;>first|trivial|omega)(s2:S2:=by and_intros<;>first|trivial|omega)(s3:S3:=by and_intros<;>first|trivial|omega)(s4:S4:=by and_intros<;>first|trivial|omega)(s5:S5:=by and_intros<;>first|trivial|omega)(s6:S6:=by and_intros<;>first|trivial|omega)(s7:S7:=by and_intros<;>first|trivial|omega):Q1∧Q2∧Q3∧Q4∧Q5∧Q6∧Q7:=⟨i1.mv h1 s1 k,i2.mv h2 s2 k,i3.mv h3 s3 k,i4.mv h4 s4 k,i5.mv h5 s5 k,i6.mv h6 s6 k,i7.mv h7 s7 k⟩
theorem Hu{w w':World}{b:Nat}{P1 Q1 S1 P2 Q2 S2 P3 Q3 S3 P4 Q4 S4 P5 Q5 S5 P6 Q6 S6 P7 Q7 S7 P8 Q8 S8:Prop}[i1:Mb b w w' P1 Q1 S1][i2:Mb b w w' P2 Q2 S2][i3:Mb b w w' P3 Q3 S3][i4:Mb b w w' P4 Q4 S4][i5:Mb b w w' P5 Q5 S5][i6:Mb b w w' P6 Q6 S6][i7:Mb b w w' P7 Q7 S7][i8:Mb b w w' P8 Q8 S8](h1:P1)(h2:P2)(h3:P3)(h4:P4)(h5:P5)(h6:P6)(h7:P7)(h8:P8)(k:Af (pB b) w w')(s1:S1:=by and_intros<;>first|trivial|omega)(s2:S2:=by and_intros<;>first|trivial|omega)(s3:S3:=by and_intros<;>first|trivial|omega)(s4:S4:=by and_intros<;>first|trivial|omega)(s5:S5:=by and_intros<;>first|trivial|omega)(s6:S6:=by and_intros<;>first|trivial|omega)(s7:S7:=by and_intros<;>first|trivial|omega)(s8:S8:=by and_intros<;>first|trivial|omega):Q1∧Q2∧Q3∧Q4∧Q5∧Q6∧Q7∧Q8:=⟨i1.mv h1 s1 k,i2.mv h2 s2 k,i3.mv h3 s3 k,i4.mv h4 s4 k,i5.mv h5 s5 k,i6.mv h6 s6 k,i7.mv h7 s7 k,i8.mv h8 s8 k⟩
end Go.Eng
namespace Go.Eng
open Go Go.RowKit
/-! ## Literals of slice types, said shortly -/
section
variable {P:Program} {N:Nat} {K:KL} {o:Oper} {w:World} {α:Type} {e:TypeId}
theorem GY{t len parts zc sz by'}(c:Co α)(xs:List α)(S:Nat->Prop)(uls:List (List Value))(ho:o.op= .buildSlice t len parts)(hu:P.underlying t=some (.slice e))(hi:DL P e=some (zc,sz,by'))
 (hp:(Iy K parts.toList).map (List.map fun p=>(p.1,p.2.cells.toList))=some (GO 0 uls))
 (hb:(Nat.beq sz c.n&&(Nat.blt 0 c.n&&(Nat.ble (len*sz) 16777216&&(Nat.beq uls.length len&&(Nat.beq len xs.length&&uls.all (fun us=>Nat.beq us.length sz))))))=true) (hrep:MT c w S xs uls) (hS:∀k,S k->k<w.heap.size):
 JY P N K o w (fun u w'=>∃g,u= .slice (some ⟨g,0,none⟩) len len∧g=w.heap.size∧w'.heap.size=w.heap.size+1∧AS w w'∧AC c w' g S e xs u):=by
 obtain⟨vs,e1,e2⟩:=Option.map_eq_some_iff.1 hp
 simp only [Bool.and_eq_true]at hb
 obtain⟨b1,b2,b3,b4,b5,b6⟩:=hb
 have b1:=Nat.eq_of_beq_eq_true b1
 have b4:=Nat.eq_of_beq_eq_true b4
 have b5:=Nat.eq_of_beq_eq_true b5
 exact Gh (out:=Bm uls) ho hu hi e1 e2 (MB uls rfl b6 b4) b3 b1 b2 b5 (Od hrep rfl) hS (by rw [GR fun us h=>Nat.eq_of_beq_eq_true (List.all_eq_true.1 b6 us h),b4])
theorem Aa{t len parts zc sz by'}(c:Co α)(xs:List α)(uls:List (List Value))(ho:o.op= .buildSlice t len parts)(hu:P.underlying t=some (.slice e))(hi:DL P e=some (zc,sz,by'))
 (hp:(Iy K parts.toList).map (List.map fun p=>(p.1,p.2.cells.toList))=some (GO 0 uls))
 (hb:(Nat.beq sz c.n&&(Nat.blt 0 c.n&&(Nat.ble (len*sz) 16777216&&(Nat.beq uls.length len&&(Nat.beq len xs.length&&uls.all (fun us=>Nat.beq us.length sz))))))=true) (hrep:MT c w (Iv 0 0) xs uls):
 JY P N K o w (fun u w'=>∃g,u= .slice (some ⟨g,0,none⟩) len len∧g=w.heap.size∧w'.heap.size=w.heap.size+1∧AS w w'∧AC c w' g (Iv 0 0) e xs u):=
 GY c xs (Iv 0 0) uls ho hu hi hp hb hrep fun k h=>by have:=h.2;omega
theorem CH{t parts zc pl}(vs:List Value)(ho:o.op= .build t parts)(hp:(Iy K parts.toList).map (List.map fun p=>(p.1,p.2.cells.toList))=some (GO 0 (vs.map fun v=>[v])))(hz:Du P t=some zc)(hpl:Cd P t=some pl)(hf:JX pl zc (GO 0 (vs.map fun v=>[v]))=some vs):EH P N K o w (.agg vs.toArray):=by
 obtain⟨us,e1,e2⟩:=Option.map_eq_some_iff.1 hp
 exact Ap ho e1 hz hpl e2 hf
end
end Go.Eng
namespace Go.Eng
open Go Go.RowKit
/-! ## The rows of a slice of slices, apart from another slice -/
def Qx(v:Value)(vs:List Value):Prop:=∀(i:Nat) (u:Value),vs[i]? =some u->No v u
theorem Qx.nil(v:Value):Qx v []:=fun i u h=>by simp at h
theorem Qx.app{v:Value}{vs us:List Value}(h:Qx v vs)(h2:Qx v us):Qx v (vs++us):=fun i u hu=>by
 by_cases c:i<vs.length
 ·rw [List.getElem?_append_left c]at hu;exact h i u hu
 ·rw [List.getElem?_append_right (by omega)]at hu;exact h2 _ u hu
section
variable {α:Type} {c:Co α} [Cx c] {w w':World} {B hi lo' hi':Nat} {e1 e2:TypeId} {xss:List (List α)} {v z:Value} {vs:List Value}
theorem Qx.of(h:own2 c w B hi e1 e2 xss v vs)(hz:Bd z lo' hi')(k:hi'<=B∨hi<=lo':=by omega):Qx z vs:=fun i u hu=>by
 have hl:=h.1.1
 have hi2:i<xss.length:=by have:=(List.getElem?_eq_some_iff.1 hu).1;omega
 obtain⟨_,q,_⟩:=h.2.1 i _ u (List.getElem?_eq_getElem hi2) hu
 exact No.of hz q (by omega)
theorem own2.updR{b:Nat}(h:own2 c w B hi e1 e2 xss v vs)(hu:GU b w w')(hne:Nb v b)(hz:z.ownBlock=some b)(hr:Qx z vs):own2 c w' B hi e1 e2 xss v vs:=by
 obtain⟨a,d,e⟩:=h
 refine⟨ownsRow.keep a (fun g hg=>hu.block g (hne g hg)),fun i xs u hx hu2=>?_,e⟩
 obtain⟨p,q,r⟩:=d i xs u hx hu2
 exact⟨p.keep (fun g hg=>hu.block g (fun e=>hr i u hu2 _ _ hz hg e.symm)) (fun _ h=>h) (fun k h=>absurd h.2 (Nat.not_lt_zero k)),q,r⟩
end
end Go.Eng
namespace Go.Eng
open Go Go.RowKit
/-! ## Own slices that move on with others -/
def OB(A:Prop)(v:Value)(lo hi:Nat):Prop:=A∧Bd v lo hi
theorem AM{A:Prop}{v:Value}{lo hi:Nat}(h:A)(k:Bd v lo hi):OB A v lo hi:=⟨h,k⟩
theorem Nb.alt{v:Value}{b lo hi:Nat}(h:Bd v lo hi)(k:b<lo∨hi<=b):∀g,v.ownBlock=some g->b≠g:=fun g hg=>by have:=h g hg;omega
section
variable {w w' a:World} {b lo hi B h:Nat} {e:TypeId} {α:Type} {c:Co α} {xs:List α} {v:Value}
instance [Cx c]:Mu b w w' (OB (AC c w B (Iv 0 0) e xs v) v lo hi) (AC c w' B (Iv 0 0) e xs v) (b<lo∨hi<=b):=⟨fun h s k=>AC.upd h.1 k (Nb.of h.2 s)⟩
instance:Mu b w w' (OB (AC c w B (SX B h v) e xs v) v lo hi) (AC c w' B (SX B h v) e xs v) ((b<lo∨hi<=b)∧(b<B∨h<=b)):=⟨fun h s k=>AC.updN h.1 k (Nb.of h.2 s.1) s.2⟩
instance [Cx c]:Mu b w w' (OB (Er c w B e xs v) v lo hi) (Er c w' B e xs v) (b<lo∨hi<=b):=⟨fun h s k=>Er.upd h.1 k (Nb.of h.2 s)⟩
instance [Cx c]:Mb b w w' (OB (AC c w B (Iv 0 0) e xs v) v lo hi) (AC c w' B (Iv 0 0) e xs v) (b<lo∨hi<=b):=⟨fun h s k=>AC.butF h.1 k (AK (Nb.alt h.2 s))⟩
instance:Mb b w w' (OB (AC c w B (SX B h v) e xs v) v lo hi) (AC c w' B (SX B h v) e xs v) ((b<lo∨hi<=b)∧(b<B∨h<=b)∧h<=w.heap.size):=⟨fun h s k=>AC.butN h.1 k (AK (Nb.alt h.2 s.1)) s.2.2 (AK s.2.1)⟩
instance [Cx c]:Mb b w w' (OB (Er c w B e xs v) v lo hi) (Er c w' B e xs v) (b<lo∨hi<=b):=⟨fun h s k=>Er.butF h.1 k (AK (Nb.alt h.2 s))⟩
theorem Vv{P1 Q1 S1:Prop}[i1:Mu b w w' P1 Q1 S1](h1:P1)(k:GU b w w')(s1:S1:=by and_intros<;>first|trivial|omega):Q1:=i1.mv h1 s1 k
theorem Po{P1 Q1 S1:Prop}[i1:Mb b w w' P1 Q1 S1](h1:P1)(k:Af (pB b) w w')(s1:S1:=by and_intros<;>first|trivial|omega):Q1:=i1.mv h1 s1 k
theorem Br(h:Af (pB b) w a)(k:Af (pB b) a w'):Af (pB b) w w':=Af.but h k (AK (Or.inl rfl))
end
end Go.Eng
namespace Go.Eng
open Go Go.RowKit
/-! ## Short words for the walks' texts: what is computed is asked for last -/
theorem z{α:Sort _}{a:α}:a=a:=rfl
@[reducible] def _root_.Go.Value.p (b:Nat):Value:=.pointer (some ⟨b,0,none⟩)
section
variable {P:Program} {N:Nat} {ops:Array Oper} {Q:Exit -> Act -> World -> Prop} {n:Nat} {K:KL} {w w0:World} {f:Nat} {listed:Array Bool} {p:Nat -> Prop}
theorem CB{o:Oper}{v:Value}(i:Nat)(hi:ops[i]? =some o)(h:∀wx,Af p w0 wx->EH P N K o wx v)(k:EK P N ops n (noPan Q) p w0 f (listed.setIfInBounds i true) (Do K o.dst v) w)
 (hh:ED ops n=true:=by kernel_rfl) (hc:(Nat.blt i n&&Region.free .any ops listed i&&(Region.ready .any ops listed).contains i)=true:=by kernel_rfl) (hg:o.guard=none:=by rfl) (hd:DD N o.dst=true:=by rfl):
 EK P N ops n (noPan Q) p w0 (f+1) listed K w:=EK.yld i hh hi hc hg hd h k
theorem KV{o:Oper}{Ψ:Value->Prop}(i:Nat)(hi:ops[i]? =some o)(h:YA P N K o Ψ)(k:∀v,Ψ v->EK P N ops n (noPan Q) p w0 f (listed.setIfInBounds i true) (Do K o.dst v) w)
 (hh:ED ops n=true:=by kernel_rfl) (hc:(Nat.blt i n&&Region.free .any ops listed i&&(Region.ready .any ops listed).contains i)=true:=by kernel_rfl) (hg:o.guard=none:=by rfl) (hd:DD N o.dst=true:=by rfl):
 EK P N ops n (noPan Q) p w0 (f+1) listed K w:=EK.ya i hh hi hc hg hd h k
theorem DV{o:Oper}{R:Value->World->Prop}(i:Nat)(hi:ops[i]? =some o)(h:JY P N K o w R)(k:∀v w',R v w'->Af p w0 w'∧EK P N ops n (noPan Q) p w0 f (listed.setIfInBounds i true) (Do K o.dst v) w')
 (hin:Nat.blt i n=true:=by rfl) (hr:Region.ready .any ops listed=[i]:=by kernel_rfl) (hg:o.guard=none:=by rfl) (hd:DD N o.dst=true:=by rfl):EK P N ops n (noPan Q) p w0 (f+1) listed K w:=EK.eff i hi hin hr hg hd h k
theorem Hk{o:Oper}{R:Value->World->Prop}(i:Nat)(hi:ops[i]? =some o)(h:JY P N K o w R)(k:∀v w',R v w'->Af p w0 w'∧EK P N ops n (noPan Q) p w0 f (listed.setIfInBounds i true) (Do K o.dst v) w')
 (hin:Nat.blt i n=true:=by rfl) (hr:(Region.ready .any ops listed).contains i=true:=by kernel_rfl) (hg:o.guard=none:=by rfl) (hd:DD N o.dst=true:=by rfl):dI P N ops n (noPan Q) p w0 f listed K w i:=dI.eff i hi hin hr hg hd h k
theorem JN{o:Oper}{R:Value->World->Prop}(i:Nat)(hi:ops[i]? =some o)(h:JY P N K o w R)(k:∀v w',R v w'->AS w0 w'∧HL P N ops n (noPan Q) w0 f (listed.setIfInBounds i true) (Do K o.dst v) w')
 (hin:Nat.blt i n=true:=by rfl) (hr:(Region.ready .any ops listed).contains i=true:=by kernel_rfl) (h0:Ll N ops K o= .yes:=by rfl):HB P N ops n (noPan Q) w0 f listed K w i:=oP i hi hin hr h0 h k
theorem Es{o:Oper}{R:Value->World->Prop}(i:Nat)(hi:ops[i]? =some o)(h:JY P N K o w R)(k:∀v w',R v w'->AS w0 w'∧HL P N ops n (noPan Q) w0 f (listed.setIfInBounds i true) (Do K o.dst v) w')
 (hin:Nat.blt i n=true:=by rfl) (hr:Region.ready .any ops listed=[i]:=by kernel_rfl) (h0:Ll N ops K o= .yes:=by rfl):HL P N ops n (noPan Q) w0 (f+1) listed K w:=nK i hi hin hr h0 h k
theorem BW{o:Oper}{v:Value}(i:Nat)(hh:ED ops n=true)(hi:ops[i]? =some o)(h:EH P N K o w0 v)(k:HL P N ops n (noPan Q) w0 f (listed.setIfInBounds i true) (Do K o.dst v) w)
 (hc:(Nat.blt i n&&Region.free .any ops listed i&&(Region.ready .any ops listed).contains i)=true:=by kernel_rfl) (h0:Ll N ops K o= .yes:=by rfl):HL P N ops n (noPan Q) w0 (f+1) listed K w:=iU i hh hi hc h0 h k
theorem GM{o:Oper}{Ψ:Value->Prop}(i:Nat)(hh:ED ops n=true)(hi:ops[i]? =some o)(h:YE P N K o w0 Ψ)(k:∀v,Ψ v->HL P N ops n (noPan Q) w0 f (listed.setIfInBounds i true) (Do K o.dst v) w)
 (hc:(Nat.blt i n&&Region.free .any ops listed i&&(Region.ready .any ops listed).contains i)=true:=by kernel_rfl) (h0:Ll N ops K o= .yes:=by rfl):HL P N ops n (noPan Q) w0 (f+1) listed K w:=iM i hh hi hc h0 h k
theorem FS{l:List Oper}(hops:ops=l.toArray)(k:TL P N ops (noPan Q) (l.drop n) K w)(hseq:Region.seqB .any ops (l.drop n).length n listed=true:=by kernel_rfl)(hf:f=(l.drop n).length:=by rfl):HL P N ops n (noPan Q) w0 f listed K w:=HL.tail hops hseq hf k
theorem GC{l:List Oper}(hops:ops=l.toArray)(k:TL P N ops (noPan Q) (l.drop n) K w)(hseq:Region.seqB .any ops (l.drop n).length n listed=true:=by kernel_rfl)(hf:f=(l.drop n).length:=by rfl):EK P N ops n (noPan Q) p w0 f listed K w:=EK.tail hops hseq hf k
theorem EJ(hh:ED ops n=true)(is:List Nat){f:Nat}{listed:Array Bool}{K:KL}(h:VE P N ops n Q w0 is f listed K w)(hc:YC ops n is listed=true:=by kernel_rfl):HL P N ops n (noPan Q) w0 f listed K w:=Hr hh is hc h
theorem Cr{id:Nat}{l:List Oper}(n:Nat)(hm:P.follows .mixedOrders=true)(h:∀w',AS w w'->ED l.toArray n=true->HL P N l.toArray n (noPan Q) w' l.length (Array.replicate l.length false) K w')(hh:ED l.toArray n=true:=by kernel_rfl):
 WC P N (.region id l.toArray true) Q K w:=WC.heldD n hm hh h
theorem Ca{id:Nat}{l:List Oper}(hm:P.follows .mixedOrders=true)(h:QL P N l.toArray w (fun a'=>∀w',AS w w'->Q .normal a' w') l K)(hB:Region.lexB .any l.toArray=true:=by kernel_rfl):WC P N (.region id l.toArray true) Q K w:=WC.quiet hm hB h
theorem EI{K':KL}(e:K'.map (fun p=>kl K p.1)=K'.map (fun p=>some p.2):=by rfl):QL P N ops w (fun a=>Kn N K' a) [] K:=QL.nil fun a h=>h.sub e
end
section
variable {P:Program} {N:Nat} {Q0:Exit -> Act -> World -> Prop} {K K':KL} {w:World} {fs:List Frame} {ops:Array Oper} {l:List Oper}
theorem BN(e:K'.map (fun p=>kl K p.1)=K'.map (fun p=>some p.2):=by rfl):TL P N ops (ND P Q0 (.lp (fun a u=>Kn N K' a∧AS w u)::fs)) [] K w:=TL.nil fun _ h=>⟨h.sub e,AS.refl _⟩
theorem Dx{R:World->Prop}(r:R w)(e:K'.map (fun p=>kl K p.1)=K'.map (fun p=>some p.2):=by rfl):TL P N ops (ND P Q0 (.lp (fun a u=>Kn N K' a∧R u)::fs)) [] K w:=TL.nil fun _ h=>⟨h.sub e,r⟩
def lZ(K:KL):List Nat->KL->Option KL
 |[],acc=>some acc
 |i::is,acc=>match kl K i with
  |some v=>lZ K is ((i,v)::acc)
  |none=>none
theorem Au(k:Nat)(is:List Nat)(j:Nat)(c:Bool){K1:KL}(hk:lZ K is [(j,.bool c)]=some K1)(h1:TL P N ops (ND P Q0 (.lp (fun a' w'=>Kn N K1 a'∧AS w w')::fs)) (l.take k) K w)(h2:∀w',AS w w'->TL P N ops (ND P Q0 fs) (l.drop k) K1 w'):
 TL P N ops (ND P Q0 fs) l K w:=TL.cutD k K1 (AS w) h1 h2
end
section
variable {P:Program} {N:Nat} {ops:Array Oper} {Q:Exit -> Act -> World -> Prop} {K:KL} {w:World} {l:List Oper} {Qa:Act -> Prop}
theorem Kd(t:Nat){c:Bool}(h:kl K t=some (.bool c))(h1:c=true->TL P N ops Q l ((t,.bool true)::K) w)(h2:c=false->TL P N ops Q l ((t,.bool false)::K) w):TL P N ops Q l K w:=by
 rcases lM c with e|e
 ·exact Kc t e h (h1 e)
 ·exact Kc t e h (h2 e)
theorem Ke{α:Type}(t:Nat){c:Bool}{x y:Option α}{r:α}(h:kl K t=some (.bool c))(e:(bif c then x else y)=some r)(h1:c=true->x=some r->TL P N ops Q l ((t,.bool true)::K) w)(h2:c=false->y=some r->TL P N ops Q l ((t,.bool false)::K) w):TL P N ops Q l K w:=
 Kd t h (fun j=>h1 j (TH j e)) fun j=>h2 j (Uz j e)
theorem Zc(t:Nat){c:Bool}(h:kl K t=some (.bool c))(h1:c=true->QL P N ops w Qa l ((t,.bool true)::K))(h2:c=false->QL P N ops w Qa l ((t,.bool false)::K)):QL P N ops w Qa l K:=by
 rcases lM c with e|e
 ·exact Kq t e h (h1 e)
 ·exact Kq t e h (h2 e)
theorem Ka{α:Type}(t:Nat){c:Bool}{x y:Option α}{r:α}(h:kl K t=some (.bool c))(e:(bif c then x else y)=some r)(h1:c=true->x=some r->QL P N ops w Qa l ((t,.bool true)::K))(h2:c=false->y=some r->QL P N ops w Qa l ((t,.bool false)::K)):QL P N ops w Qa l K:=
 Zc t h (fun j=>h1 j (TH j e)) fun j=>h2 j (Uz j e)
end
theorem AE.oj{α:Type}{c:Co α}{w w':World}{lo H:Nat}{xs:List α}{v:Value}(h:AE c w (Iv lo H) xs v)(he:AS w w')(hH:H<=w.heap.size:=by assumption):AE c w' (Iv lo H) xs v:=h.old he hH
theorem Cc{P:Program}{N:Nat}{c:Code}{Q:Exit->Act->World->Prop}{K:KL}{w:World}{a:Act}(hK:Kn N K a)(h:WC P N c Q K w):c.wp P Q a w:=h a hK
theorem Bf{P:Program}{N:Nat}{K:KL}{w:World}{fn:Func}{rs:List ResultVar}{vs:List Value}{v:Value}{X:World->Prop}(hr:fn.results=List.toArray rs)(ho:RW K rs=some vs)(hX:X w)(hv:EQ vs=v:=by rfl):
 NX N (bodyPost P fn (Dy fun u U=>u=v∧X U)) .ret K w:=Ne hr ho ⟨_,rfl,hv,hX⟩
section
variable (P:Program) (N:Nat) (ops:Array Oper) (n:Nat) (Q:Exit -> Act -> World -> Prop) (p:Nat -> Prop) (w0:World)
def VQ:List Nat->Nat->Array Bool->KL->World->Prop
 |[]=>fun f listed K w=>EK P N ops n (noPan Q) p w0 f listed K w
 |i::is=>fun f listed K w=>match f with
  |0=>False
  |f+1=>match ops[i]? with
   |none=>False
   |some o=>match o.guard with
    |some _=>False
    |none=>match DD N o.dst with
     |false=>False
     |true=>match yq K o.op with
      |some v=>VQ is f (listed.setIfInBounds i true) (Do K o.dst v) w
      |none=>False
end
section
variable {P:Program} {N:Nat} {ops:Array Oper} {Q:Exit -> Act -> World -> Prop} {n:Nat} {p:Nat -> Prop} {w w0:World}
theorem kZ(hh:ED ops n=true):∀(is:List Nat) {f:Nat} {listed:Array Bool} {K:KL},YC ops n is listed=true->VQ P N ops n Q p w0 is f listed K w->EK P N ops n (noPan Q) p w0 f listed K w
 |[],_,_,_,_,h=>h
 |i::is,0,listed,K,_,h=>h.elim
 |i::is,f+1,listed,K,hc,h=>by
  simp only [YC,Bool.and_eq_true]at hc
  have hc':(Nat.blt i n&&Region.free .any ops listed i&&(Region.ready .any ops listed).contains i)=true:=by simp only [Bool.and_eq_true];exact hc.1
  simp only [VQ]at h
  split at h
  ·exact h.elim
  ·rename_i o hi
   split at h
   ·exact h.elim
   ·rename_i hg
    split at h
    ·exact h.elim
    ·rename_i hd
     split at h
     ·rename_i v hv;exact EK.yld i hh hi hc' hg hd (fun wx _=>Pj hv) (kZ hh is hc.2 h)
     ·exact h.elim
theorem Dq(is:List Nat){f:Nat}{listed:Array Bool}{K:KL}(h:VQ P N ops n Q p w0 is f listed K w)(hh:ED ops n=true:=by kernel_rfl)(hc:YC ops n is listed=true:=by kernel_rfl):EK P N ops n (noPan Q) p w0 f listed K w:=kZ hh is hc h
end
@[reducible] def Bl (v:Value) (w:World):Ending->World->Prop:=Dy fun u U=>u=v∧AS w U
end Go.Eng
