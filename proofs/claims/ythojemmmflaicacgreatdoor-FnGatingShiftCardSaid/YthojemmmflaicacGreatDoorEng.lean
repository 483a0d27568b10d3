/- The proof engine: what a function of the model computes, said by a plain function; no condition. -/
import Derived.WalkKit
import Derived.WalkSpells
import Derived.WalkLawsBesides
import Derived.Deep.QuietTactic
import Derived.Deep.Slices
import Derived.StillTailTactics
import Derived.OrdersHeld
import Derived.StillTail
import Derived.Carry
import Derived.ChangeSame
import Derived.Handed
import Derived.WideShapes
import Derived.ProofKit
import Derived.Laws.Cover3
import Derived.Laws.BytesString
import Derived.LaidLaws
import Derived.Stop.Joined
import Derived.Laws.StructEq
import Derived.KernelRfl
set_option linter.all false
namespace Go.Eng
open Go Go.RowKit
/-! ## Frames: what is known of the slots -/
abbrev KL:=List (Nat×Value)
def kl:KL->Nat->Option Value
 |[],_=>none
 |(s,v)::K,t=>bif Nat.beq s t then some v else kl K t
structure Kn(N:Nat)(K:KL)(a:Act):Prop where
 df:a.defers=[]
 sz:N<=a.tmps.size
 get:∀t v,kl K t=some v->a.tmps[t]? =some v
def CL(K:KL):Operand->Option Value
 | .tmp t=>kl K t
 | .const v=>some v
 | .func f=>some (.func (.func f) #[] #[])
 |_=>none
theorem Kn.ev{N K a x v}(h:Kn N K a)(hx:CL K x=some v):a.eval x=v:=by
 cases x with
 |tmp t=>have:=h.get t v hx;simp [Act.eval,Array.getD_eq_getD_getElem?,this]
 |const c=>simpa [Act.eval,CL] using hx
 |func f=>simpa [Act.eval,CL] using hx
 |global g=>simp [CL]at hx
def Bq(K:KL):Option Tmp->Value->KL
 |some d,v=>(d,v)::K
 |none,_=>K
theorem Kn.put{N K a v}{d:Option Tmp}(h:Kn N K a)(hd:∀t,d=some t->Nat.blt t N=true):Kn N (Bq K d v) (a.put d v):=by
 cases d with
 |none=>exact h
 |some d=>
  have hdn:d<N:=by have:=hd d rfl;simpa [Nat.blt,Nat.succ_le_iff] using this
  refine⟨h.df,by simpa [Act.put] using h.sz,fun t u ht=>?_⟩
  have hsz:=h.sz
  simp only [Bq,kl]at ht
  by_cases e:d=t
  ·subst e
   simp at ht
   subst ht
   have hlt:d<a.tmps.size:=Nat.lt_of_lt_of_le hdn hsz
   simp [Act.put,hlt]
  ·have hb:Nat.beq d t=false:=by cases hq:Nat.beq d t with
   |false=>rfl
   |true=>exact absurd (Nat.eq_of_beq_eq_true hq) e
   rw [hb]at ht
   have:=h.get t u (by simpa using ht)
   simp [Act.put,Array.getElem?_setIfInBounds,e,this]
def eY:KL->KL->Prop
 |[],_=>True
 |(t,v)::K',K=>kl K t=some v∧eY K' K
theorem Kn.weaken{N K K' a}(h:Kn N K a)(hk:eY K' K):Kn N K' a:=by
 refine⟨h.df,h.sz,fun t v ht=>h.get t v ?_⟩
 induction K' with
 |nil=>simp [kl]at ht
 |cons p K' ih=>
  obtain⟨s,u⟩:=p
  obtain⟨h1,h2⟩:=hk
  simp only [kl]at ht
  by_cases e:s=t
  ·subst e;simp at ht;subst ht;exact h1
  ·have hb:Nat.beq s t=false:=by cases hq:Nat.beq s t with
   |false=>rfl
   |true=>exact absurd (Nat.eq_of_beq_eq_true hq) e
   rw [hb]at ht
   exact ih h2 (by simpa using ht)
/-! ## Worlds -/
abbrev AR(w w':World):Prop:=Below w.heap.size w w'
theorem AR.refl(w:World):AR w w:=Below.refl _ _
theorem AR.trans{a b c:World}(h:AR a b)(k:AR b c):AR a c:=Below.trans h (k.mono h.size)
theorem AR.drew(w:World):AR w w.drew:=(Below.refl _ _).drew
theorem AR.alloc(w:World)(o:Obj):AR w (w.alloc o):=(Below.refl _ _).alloc (Nat.le_refl _) o
/-! ## Text order -/
section
variable {P:Program} {N:Nat}
def TL(P:Program)(N:Nat)(ops:Array Oper)(Q:Exit->Act->World->Prop)(l:List Oper)(K:KL)(w:World):Prop:=
 ∀a,Kn N K a->wpList P ops Q l a w
def WC(P:Program)(N:Nat)(c:Code)(Q:Exit->Act->World->Prop)(K:KL)(w:World):Prop:=
 ∀a,Kn N K a->c.wp P Q a w
def EL(P:Program)(N:Nat)(K:KL)(o:Oper)(w:World)(v:Value):Prop:=
 ∀a,Kn N K a->∀w',AR w w'->(execOp a.eval o).run P w'= .ok (.value v) w'
def LG(P:Program)(N:Nat)(K:KL)(o:Oper)(w:World)(R:Value->World->Prop):Prop:=
 ∀a,Kn N K a->∀(Kt:Act->World->Prop) Q,(∀v w',R v w'->Kt (a.put o.dst v) w')->o.wp P a w Kt Q
def Eb(N:Nat):Option Tmp->Bool
 |none=>true
 |some d=>Nat.blt d N
theorem Eb.h{N:Nat}{d:Option Tmp}(h:Eb N d=true):∀t,d=some t->Nat.blt t N=true:=by
 intro t e;subst e;exact h
theorem EL.eff{K o w v}(h:EL P N K o w v):LG P N K o w (fun u w'=>u=v∧w'=w):=by
 intro a hK Kt Q hk
 unfold Oper.wp
 rw [h a hK w (AR.refl w)]
 exact hk v w ⟨rfl,rfl⟩
theorem TL.nil{ops Q K w}(h:∀a,Kn N K a->Q .normal a w):TL P N ops Q [] K w:=fun a hK=>h a hK
/-! ## Operations -/
section ops
variable {K:KL} {o:Oper} {w:World}
theorem UM{x v}(ho:o.op= .move x)(hx:CL K x=some v):EL P N K o w v:=by
 intro a hK w' _
 simp [execOp,ho,hK.ev hx]
theorem RK{x v}(ho:o.op= .assign x)(hx:CL K x=some v):EL P N K o w v:=by
 intro a hK w' _
 simp [execOp,ho,hK.ev hx]
theorem Xd{t x y u k m n}(ho:o.op= .binOp .add t x y u)(hx:CL K x=some (.int k m))(hy:CL K y=some (.int k n)):EL P N K o w (.int k (k.wrap (m+n))):=by
 intro a hK w' _
 simp [execOp,ho,hK.ev hx,hK.ev hy,eqGuard,binOp,Op.intArith]
theorem XI{t x y u k m n}(ho:o.op= .binOp .sub t x y u)(hx:CL K x=some (.int k m))(hy:CL K y=some (.int k n)):EL P N K o w (.int k (k.wrap (m-n))):=by
 intro a hK w' _
 simp [execOp,ho,hK.ev hx,hK.ev hy,eqGuard,binOp,Op.intArith]
theorem Xb{t x y u k m n}(ho:o.op= .binOp .mul t x y u)(hx:CL K x=some (.int k m))(hy:CL K y=some (.int k n)):EL P N K o w (.int k (k.wrap (m*n))):=by
 intro a hK w' _
 simp [execOp,ho,hK.ev hx,hK.ev hy,eqGuard,binOp,Op.intArith]
theorem Sh{t x y u k m n}(ho:o.op= .binOp .quo t x y u)(hx:CL K x=some (.int k m))(hy:CL K y=some (.int k n))(h0:n≠0):EL P N K o w (.int k (k.wrap (m.tdiv n))):=by
 intro a hK w' _
 simp [execOp,ho,hK.ev hx,hK.ev hy,eqGuard,binOp,Op.intDiv,h0]
theorem Hm{t x y u k m n}(ho:o.op= .binOp .rem t x y u)(hx:CL K x=some (.int k m))(hy:CL K y=some (.int k n))(h0:n≠0):EL P N K o w (.int k (m.tmod n)):=by
 intro a hK w' _
 simp [execOp,ho,hK.ev hx,hK.ev hy,eqGuard,binOp,Op.intDiv,h0]
theorem Xn{t x y u k m n}(ho:o.op= .binOp .lss t x y u)(hx:CL K x=some (.int k m))(hy:CL K y=some (.int k n)):EL P N K o w (.bool (decide (m<n))):=by
 intro a hK w' _
 simp [execOp,ho,hK.ev hx,hK.ev hy,eqGuard,binOp,Op.intCmp]
theorem XV{t x y u k m n}(ho:o.op= .binOp .leq t x y u)(hx:CL K x=some (.int k m))(hy:CL K y=some (.int k n)):EL P N K o w (.bool (decide (m<=n))):=by
 intro a hK w' _
 simp [execOp,ho,hK.ev hx,hK.ev hy,eqGuard,binOp,Op.intCmp]
theorem YV{t x y u k m n}(ho:o.op= .binOp .gtr t x y u)(hx:CL K x=some (.int k m))(hy:CL K y=some (.int k n)):EL P N K o w (.bool (decide (m>n))):=by
 intro a hK w' _
 simp [execOp,ho,hK.ev hx,hK.ev hy,eqGuard,binOp,Op.intCmp]
theorem XL{t x y u k m n}(ho:o.op= .binOp .geq t x y u)(hx:CL K x=some (.int k m))(hy:CL K y=some (.int k n)):EL P N K o w (.bool (decide (m>=n))):=by
 intro a hK w' _
 simp [execOp,ho,hK.ev hx,hK.ev hy,eqGuard,binOp,Op.intCmp]
theorem XA{t x y u k m n}(ho:o.op= .binOp .eql t x y u)(hx:CL K x=some (.int k m))(hy:CL K y=some (.int k n)):EL P N K o w (.bool (m==n)):=by
 intro a hK w' _
 simp [execOp,ho,hK.ev hx,hK.ev hy,eqGuard,binOp,Op.intCmp]
theorem YD{t x y u k m n}(ho:o.op= .binOp .neq t x y u)(hx:CL K x=some (.int k m))(hy:CL K y=some (.int k n)):EL P N K o w (.bool (m !=n)):=by
 intro a hK w' _
 simp [execOp,ho,hK.ev hx,hK.ev hy,eqGuard,binOp,Op.intCmp]
theorem OR{t m n}{w:World}(ht:P.underlying t=some .bool):(Op.equal t (.bool m) (.bool n)).run P w= .ok (m==n) w:=by
 simp only [Op.equal,Op.maxDepth]
 rw [show(10000:Nat)=9999+1 from rfl,Op.equalIn]
 simp [run_underlying ht]
theorem YL{t x y u m n}(ho:o.op= .binOp .eql t x y u)(ht:P.underlying t=some .bool)(hx:CL K x=some (.bool m))(hy:CL K y=some (.bool n)):EL P N K o w (.bool (m==n)):=by
 intro a hK w' _
 simp [execOp,ho,hK.ev hx,hK.ev hy,eqGuard,binOp,OR ht]
theorem SU{t x y u m n}(ho:o.op= .binOp .neq t x y u)(ht:P.underlying t=some .bool)(hx:CL K x=some (.bool m))(hy:CL K y=some (.bool n)):EL P N K o w (.bool (m !=n)):=by
 intro a hK w' _
 simp [execOp,ho,hK.ev hx,hK.ev hy,eqGuard,binOp,OR ht,bne]
theorem Xr{t x y u m n}(ho:o.op= .binOp .eql t x y u)(hx:CL K x=some (.string m))(hy:CL K y=some (.string n)):EL P N K o w (.bool (m.toList==n.toList)):=by
 intro a hK w' _
 simp [execOp,ho,hK.ev hx,hK.ev hy,eqGuard,binOp,Op.stringOp]
theorem XD{t x y u m n}(ho:o.op= .binOp .neq t x y u)(hx:CL K x=some (.string m))(hy:CL K y=some (.string n)):EL P N K o w (.bool (m.toList !=n.toList)):=by
 intro a hK w' _
 simp [execOp,ho,hK.ev hx,hK.ev hy,eqGuard,binOp,Op.stringOp,bne]
theorem XN{t x b}(ho:o.op= .unOp .not t x)(hx:CL K x=some (.bool b)):EL P N K o w (.bool (!b)):=by
 intro a hK w' _
 simp [execOp,ho,hK.ev hx,Op.unary]
theorem Xw{t x k m}(ho:o.op= .unOp .neg t x)(hx:CL K x=some (.int k m)):EL P N K o w (.int k (k.wrap (0-m))):=by
 intro a hK w' _
 simp [execOp,ho,hK.ev hx,Op.unary,Op.intArith]
theorem SA{c x y b u}(ho:o.op= .pick c x y)(hc:CL K c=some (.bool b))(hb:b=true)(hx:CL K x=some u):EL P N K o w u:=by
 intro a hK w' _
 subst hb
 simp [execOp,ho,hK.ev hc,hK.ev hx,asBool]
theorem Ra{c x y b u}(ho:o.op= .pick c x y)(hc:CL K c=some (.bool b))(hb:b=false)(hx:CL K y=some u):EL P N K o w u:=by
 intro a hK w' _
 subst hb
 simp [execOp,ho,hK.ev hc,hK.ev hx,asBool]
theorem Kv{t x base n c e}(ho:o.op= .call { callee:=.builtin .len,args:=#[x],argTypes:=#[t] })(ht:P.underlying t=some (.slice e))(hx:CL K x=some (.slice base n c)):EL P N K o w (.int .i64 n):=by
 intro a hK w' _
 simp [execOp,ho,resolve,invoke,builtin,hK.ev hx,Builtin.len_,run_underlying ht,goInt]
theorem MM{t x s}(ho:o.op= .call { callee:=.builtin .len,args:=#[x],argTypes:=#[t] })(ht:P.underlying t=some .string)(hx:CL K x=some (.string s)):EL P N K o w (.int .i64 s.size):=by
 intro a hK w' _
 simp [execOp,ho,resolve,invoke,builtin,hK.ev hx,run_len_string,ht,goInt]
theorem GS{x i vs u}(ho:o.op= .extract x i)(hx:CL K x=some (.tuple vs))(hi:vs[i]? =some u):EL P N K o w u:=by
 intro a hK w' _
 simp [execOp,ho,hK.ev hx,Instr.extract,hi]
theorem GU{ts x y k m n}(ho:o.op= .call { callee:=.builtin .min,args:=#[x,y],argTypes:=ts })(hx:CL K x=some (.int k m))(hy:CL K y=some (.int k n)):EL P N K o w (.int k (min m n)):=by
 intro a hK w' _
 simp [execOp,ho,resolve,invoke,builtin,hK.ev hx,hK.ev hy,run_min_int2]
 split<;>omega
theorem FW{ts x y k m n}(ho:o.op= .call { callee:=.builtin .max,args:=#[x,y],argTypes:=ts })(hx:CL K x=some (.int k m))(hy:CL K y=some (.int k n)):EL P N K o w (.int k (max m n)):=by
 intro a hK w' _
 simp [execOp,ho,resolve,invoke,builtin,hK.ev hx,hK.ev hy,run_max_int2]
 split<;>omega
theorem Dy{s t x k j m}(ho:o.op= .convert s t x)(hs:P.underlying s=some (.int j))(ht:P.underlying t=some (.int k))(hx:CL K x=some (.int j m)):EL P N K o w (.int k (k.wrap m)):=by
 intro a hK w' _
 simp [execOp,ho,hK.ev hx,convert,run_underlying hs,run_underlying ht,Conv.intToInt]
end ops
end
end Go.Eng
namespace Go.Eng
open Go Go.RowKit
section
variable {P:Program} {N:Nat}
/-! ## Memory -/
theorem FD{w w':World}{b off:Nat}(e:w'.heap[b]? =w.heap[b]?):w'.frozen? ⟨b,off,none⟩=w.frozen? ⟨b,off,none⟩:=by simp only [World.frozen?,e]
def AO(w:World)(b off:Nat)(us:List Value):Prop:=∀j u,us[j]? =some u->w.cell? ⟨b,off+j,none⟩=some u∧w.frozen? ⟨b,off+j,none⟩=false
theorem AO.block{w w':World}{b off us}(h:AO w b off us)(e:w'.heap[b]? =w.heap[b]?):AO w' b off us:=
 fun j u hu=>⟨by rw [World.cell?_of_block (w:=w) e];exact(h j u hu).1,by rw [FD e];exact(h j u hu).2⟩
theorem AO.ext{w w':World}{b off us}(h:AO w b off us)(he:AR w w'):AO w' b off us:=
 fun j u hu=>h.block (he.block b (World.block_lt_of_cell? _ _ (h j u hu).1)) j u hu
def Ae(w:World)(b:Nat)(us:List Value)(t:TypeId):Prop:=w.heap[b]? =some (.cells us.toArray t (0,0))
theorem Ae.lt{w:World}{b us t}(h:Ae w b us t):b<w.heap.size:=(Array.getElem?_eq_some_iff.1 h).1
theorem Ae.cells{w:World}{b us t}(h:Ae w b us t):AO w b 0 us:=fun j u hu=>by
 refine⟨?_,by unfold Ae at h;simp [World.frozen?,h]⟩
 rw [Nat.zero_add,cell_of_row w b j _ t _ h];simpa using hu
theorem Ae.ext{w w':World}{b us t}(h:Ae w b us t)(he:AR w w'):Ae w' b us t:=by
 unfold Ae;rw [he.block b h.lt];exact h
structure Gk(b:Nat)(w w':World):Prop where
 os:w'.os=w.os
 tape:w'.tape=w.tape
 output:w'.output=w.output
 size:w'.heap.size=w.heap.size
 block:∀k,k≠b->w'.heap[k]? =w.heap[k]?
theorem Gk.below{b B:Nat}{w w':World}(h:Gk b w w')(hB:B<=b):Below B w w':=
 ⟨h.os,h.tape,h.output,by rw [h.size];exact Nat.le_refl _,fun k hk=>h.block k (by omega)⟩
theorem Ae.upd{w w':World}{b c us t}(h:Ae w b us t)(he:Gk c w w')(hne:b≠c):Ae w' b us t:=by
 unfold Ae;rw [he.block b hne];exact h
theorem AO.upd{w w':World}{b c off us}(h:AO w b off us)(he:Gk c w w')(hne:b≠c):AO w' b off us:=
 h.block (he.block b hne)
theorem Gk.setRow(w:World)(b:Nat)(cs:Array Value):Gk b w (w.setRow b cs):=
 ⟨rfl,rfl,rfl,by simp,fun k hk=>setRow_other w b k cs hk⟩
def Ad(P:Program)(t f:Nat):Option Nat:=
 match P.underlying t with
 |some (.struct fs)=>match fs[f]? with
  |some fd=>match P.info? fd.type with
   |some i=>if i.size=0 then none else some fd.offset
   |none=>none
  |none=>none
 |_=>none
def Ch(P:Program)(t:Nat):Option Bool:=
 match P.underlying t with
 |some (.struct _)|some (.array _ _)=>some true
 |some _=>some false
 |none=>none
def BP(P:Program)(t:Nat):Option Nat:=(P.info? t).map (·.size)
def Dr(P:Program)(t:Nat):Option (List Value):=(P.info? t).bind fun i=>i.zero.map (·.cells.toList)
theorem Ct(b off n:Nat):(⟨b,off,none⟩:Addr).add n=⟨b,off+n,none⟩:=by
 unfold Addr.add;split<;>simp_all
section
variable {K:KL} {o:Oper} {w:World}
theorem Oj{t x f b off fo}(ho:o.op= .fieldAddr t x f)(hf:Ad P t f=some fo)(hx:CL K x=some (.pointer (some ⟨b,off,none⟩))):
 EL P N K o w (.pointer (some ⟨b,off+fo,none⟩)):=by
 intro a hK w' _
 unfold Ad at hf
 split at hf
 ·rename_i fs hu
  split at hf
  ·rename_i fd hfd
   split at hf
   ·rename_i i hi
    split at hf
    ·cases hf
    ·rename_i hs
     injection hf with hf
     simp [execOp,ho,hK.ev hx,Instr.fieldAt,run_underlying hu,hfd,Instr.sureAddr,fieldPlace,sizeOf,typeInfo,hi,hs,Ct,hf]
   ·cases hf
  ·cases hf
 ·cases hf
theorem Kr{t b}(h:Ch P t=some b)(w:World):(isAgg t).run P w= .ok b w:=by
 unfold Ch at h
 unfold isAgg
 split at h
 ·rename_i hu;injection h with h;subst h;simp [run_underlying hu]
 ·rename_i hu;injection h with h;subst h;simp [run_underlying hu]
 ·rename_i d h1 h2 hu;injection h with h;subst h
  rw [Sem.run_bind,run_underlying hu]
  cases d<;>first|rfl|exact absurd rfl (h1 _)|exact absurd rfl (h2 _ _)
 ·cases h
theorem PH{t x b o0 off us u}(j:Nat)(ho:o.op= .load t x)(ha:Ch P t=some false)(hx:CL K x=some (.pointer (some ⟨b,off,none⟩)))(hcs:AO w b o0 us)(hj:off=o0+j)(hu:us[j]? =some u):EL P N K o w u:=by
 have hc:w.cell? ⟨b,off,none⟩=some u:=by rw [hj];exact(hcs j u hu).1
 intro a hK w' he
 have hc':w'.cell? ⟨b,off,none⟩=some u:=by rw [he.cell (World.block_lt_of_cell? _ _ hc)];exact hc
 simp [execOp,ho,hK.ev hx,Instr.loadAt,Instr.sureAddr,loadVar,Sem.run_bind,Kr ha,hc']
theorem AO.sub{w:World}{b off:Nat}{us:List Value}(h:AO w b off us)(i n:Nat):AO w b (off+i) ((us.drop i).take n):=fun j u hu=>by
 rw [List.getElem?_take]at hu
 split at hu
 ·rw [List.getElem?_drop]at hu;rw [Nat.add_assoc];exact h (i+j) u hu
 ·cases hu
theorem PG{t x b off us}(ho:o.op= .load t x)(ha:Ch P t=some true)(hx:CL K x=some (.pointer (some ⟨b,off,none⟩)))(hc:AO w b off us)(hn:BP P t=some us.length):
 EL P N K o w (.agg us.toArray):=by
 intro a hK w' he
 have hc':=hc.ext he
 obtain⟨i,hi,hs⟩:=Option.map_eq_some_iff.1 hn
 have hl:(loadCells ⟨b,off,none⟩ us.length).run P w'= .ok us.toArray w':=
  run_loadCells_list (P:=P) w' ⟨b,off,none⟩ us (fun j v hv=>by rw [Ct];exact(hc' j v hv).1)
 simp [execOp,ho,hK.ev hx,Instr.loadAt,Instr.sureAddr,loadVar,Sem.run_bind,Kr ha,sizeOf,typeInfo,hi,hs,hl]
theorem PK{t x y b off v cur e}(ho:o.op= .store t x y)(hx:CL K x=some (.pointer (some ⟨b,off,none⟩)))(hy:CL K y=some v)(hb:Ae w b cur e)(hn:BP P t=some v.cells.toList.length)
 (h1:v.cells.toList.all Value.oneCell'=true) (hfit:Nat.ble (off+v.cells.toList.length) cur.length=true):
 LG P N K o w (fun _ w'=>Gk b w w'∧Ae w' b (cur.take off++v.cells.toList++cur.drop (off+v.cells.toList.length)) e):=by
 intro a hK Kt Q hk
 obtain⟨i,hi,hs⟩:=Option.map_eq_some_iff.1 hn
 have hfit:=Nat.le_of_ble_eq_true hfit
 have hst:=run_storeCells_at P b off e v.cells.toList 0 cur.toArray w hb (by simpa using hfit) (List.all_eq_true.1 h1)
 simp only [Nat.add_zero]at hst
 unfold Oper.wp
 have hr:(execOp a.eval o).run P w= .ok .skip (w.setRow b (cur.take off++v.cells.toList++cur.drop (off+v.cells.toList.length)).toArray):=by
  simp [execOp,ho,hK.ev hx,hK.ev hy,Instr.storeAt,Instr.sureAddr,storeVar,Sem.run_bind,sizeOf,typeInfo,hi,hs]at hst ⊢
  rw [hst]
  simp
 rw [hr]
 exact hk _ _ ⟨Gk.setRow _ _ _,by unfold Ae;exact setRow_heap w b _ _ e _ hb⟩
def Mw(w w':World)(b:Nat)(us:List Value)(t:TypeId):Prop:=b=w.heap.size∧w'.heap.size=w.heap.size+1∧AR w w'∧Ae w' b us t
theorem Mw.of(w:World)(us:List Value)(t:TypeId):Mw w (w.alloc (.cells us.toArray t)) w.heap.size us t:=
 ⟨rfl,by simp,AR.alloc _ _,heap_alloc_new w _⟩
theorem AH{t zs}(ho:o.op= .alloc t)(hz:Dr P t=some zs):
 LG P N K o w (fun v w'=>∃b,v= .pointer (some ⟨b,0,none⟩)∧Mw w w' b zs t):=by
 intro a hK Kt Q hk
 unfold Dr at hz
 obtain⟨i,hi,hz2⟩:=Option.bind_eq_some_iff.1 hz
 obtain⟨z,hz3,hz4⟩:=Option.map_eq_some_iff.1 hz2
 have hr:(execOp a.eval o).run P w= .ok (.value (.pointer (some ⟨w.heap.size,0,none⟩))) (w.alloc (.cells zs.toArray t)):=by
  subst hz4
  simp [execOp,ho,Instr.alloc,zeroValue,typeInfo,hi,hz3,newVar,newRow,newObj];simp [Sem.run,Result.andThen]
 unfold Oper.wp
 rw [hr]
 exact hk _ _ ⟨_,rfl,Mw.of w zs t⟩
theorem AU{t x v}(ho:o.op= .box t x)(hx:CL K x=some v):
 LG P N K o w (fun u w'=>∃b,u= .pointer (some ⟨b,0,none⟩)∧Mw w w' b v.cells.toList t):=by
 intro a hK Kt Q hk
 have hr:(execOp a.eval o).run P w= .ok (.value (.pointer (some ⟨w.heap.size,0,none⟩))) (w.alloc (.cells v.cells.toList.toArray t)):=by
  simp [execOp,ho,hK.ev hx,Instr.box,newVar,newRow,newObj];simp [Sem.run,Result.andThen]
 unfold Oper.wp
 rw [hr]
 exact hk _ _ ⟨_,rfl,Mw.of w _ t⟩
/-! ## Calls -/
def Ng(K:KL):List Operand->Option (List Value)
 |[]=>some []
 |x::xs=>match CL K x,Ng K xs with|some v,some vs=>some (v::vs)|_,_=>none
theorem Kn.evs{K a}(h:Kn N K a):∀{xs vs},Ng K xs=some vs->xs.map a.eval=vs
 |[],vs,e=>by simp [Ng]at e;subst e;rfl
 |x::xs,vs,e=>by
  unfold Ng at e
  split at e
  ·rename_i v vs' h1 h2
   injection e with e;subst e
   simp [h.ev h1,h.evs h2]
  ·cases e
def Au(P:Program)(f:FuncId):Bool:=match P.funcs[f]? with|some fn=> !(fn.name== "runtime.NumGoroutine")&&fn.body.isSome|none=>false
theorem OV{f}(h:Au P f=true)(args:Array Value)(w:World):(callFunc f args).run P w= .ok (.enter f args) w:=by
 unfold Au at h
 split at h
 ·rename_i fn hf
  simp only [Bool.and_eq_true,Bool.not_eq_true']at h
  have hb:fn.body.isNone=false:=by cases hq:fn.body<;>simp_all
  have hb2:¬fn.body=none:=by intro e;simp [e]at hb
  have h1:¬fn.name= "runtime.NumGoroutine" :=by intro e;simp [e]at h
  simp [callFunc,hf,h1,hb2]
 ·cases h
def Dn(R:Value->World->Prop):Ending->World->Prop:=fun e w'=>∃v,e= .returned v∧R v w'
theorem Ub{f args tys vs}{R:Value->World->Prop}(ho:o.op= .call { callee:=.value (.func f),args:=args,argTypes:=tys })(hf:Au P f=true)
 (ha:Ng K args.toList=some vs) (hc:Calls P f vs.toArray w (Dn R)):LG P N K o w R:=by
 intro a hK Kt Q hk
 have he:args.map a.eval=vs.toArray:=by
  have:=hK.evs ha
  apply Array.ext'
  simpa using this
 have hr:(execOp a.eval o).run P w= .ok (.enter f vs.toArray) w:=by
  simp [execOp,ho,resolve,Act.eval,Deferred.ofValue,invoke,he,OV hf]
 unfold Oper.wp
 rw [hr]
 exact hc.mono fun e w' ⟨v,he,hR⟩=>by subst he;exact hk _ _ hR
end
/-! ## Code -/
section
variable {Q:Exit -> Act -> World -> Prop} {K:KL} {w:World}
theorem WC.seq{x y:Code}(h:WC P N x (Exit.then (fun a' w'=>y.wp P Q a' w') Q) K w):WC P N (.seq x y) Q K w:=fun a hK=>wp_seq (h a hK)
theorem WC.region{id:Nat}{l:List Oper}(h:TL P N l.toArray Q l K w):WC P N (.region id l.toArray false) Q K w:=fun a hK=>wp_region_lit (h a hK)
theorem WC.block{id:Nat}{c:Code}(h:WC P N c (Exit.inBlock id Q) K w):WC P N (.block id c) Q K w:=fun a hK=>wp_block (h a hK)
theorem WC.skip(h:∀a,Kn N K a->Q .normal a w):WC P N .skip Q K w:=fun a hK=>wp_skip (h a hK)
theorem WC.exit{id:Nat}(h:∀a,Kn N K a->Q (.exit id) a w):WC P N (.exit id) Q K w:=fun a hK=>wp_exit (h a hK)
theorem WC.ret(h:∀a,Kn N K a->Q .ret a w):WC P N .ret Q K w:=fun a hK=>wp_ret (h a hK)
theorem WC.cond{c:Operand}{x y:Code}{t:Bool}(hc:CL K c=some (.bool t))(ht:t=true->WC P N x Q K w)(hf:t=false->WC P N y Q K w):WC P N (.cond c x y) Q K w:=
 fun a hK=>wp_cond_split (hK.ev hc) (fun h=>ht h a hK) (fun h=>hf h a hK)
theorem WC.loop{c:Code}(I:Nat->Act->World->Prop)(m:Nat)(h0:∀a,Kn N K a->I m a w)
 (round:∀m a w,I m a w->c.wp P (Exit.then (fun a' w'=>∃m',m'<m∧I m' a' w') Q) a w):WC P N (.loop c) Q K w:=by
 intro a hK
 classical
 have key:∀a w,(∃m,I m a w)->∃m,I m a w∧∀m',I m' a w->m<=m':=by
  intro a w ⟨m,hm⟩
  induction m using Nat.strongRecOn with
  |_ m ih=>
   by_cases h:∃m',m'<m∧I m' a w
   ·obtain⟨m',h1,h2⟩:=h;exact ih m' h1 h2
   ·exact⟨m,hm,fun m' hm'=>Nat.le_of_not_lt fun hlt=>h ⟨m',hlt,hm'⟩⟩
 let μ:Act->World->Nat:=fun a w=>if h:∃m,I m a w then Classical.choose (key a w h)else 0
 have hμ:∀a w,(h:∃m,I m a w)->I (μ a w) a w∧∀m',I m' a w->μ a w<=m':=by
  intro a w h
  simp only [μ,dif_pos h]
  exact Classical.choose_spec (key a w h)
 refine wp_loop (fun a w=>∃m,I m a w) μ ⟨m,h0 a hK⟩ fun a w hI=>?_
 obtain⟨h1,h2⟩:=hμ a w hI
 refine Code.wp_mono ?_ (round _ a w h1)
 intro e a' w' hq
 cases e with
 |normal=>
  obtain⟨m',hlt,hm'⟩:=hq
  exact⟨⟨m',hm'⟩,Nat.lt_of_le_of_lt ((hμ a' w' ⟨m',hm'⟩).2 m' hm') hlt⟩
 |_=>exact hq
end
/-! ## Functions -/
def Ov:Nat->List Value->KL
 |_,[]=>[]
 |i,v::vs=>(i,v)::Ov (i+1) vs
theorem PL:∀(vs:List Value) (i t:Nat) (u:Value),kl (Ov i vs) t=some u->i<=t∧vs[t-i]? =some u
 |[],_,_,_,h=>by simp [Ov,kl]at h
 |v::vs,i,t,u,h=>by
  simp only [Ov,kl]at h
  cases hq:Nat.beq i t with
  |true=>
   rw [hq]at h
   have:=Nat.eq_of_beq_eq_true hq
   subst this
   simpa using h
  |false=>
   rw [hq]at h
   obtain⟨h1,h2⟩:=PL vs (i+1) t u (by simpa using h)
   refine⟨by omega,?_⟩
   rw [show t-i=(t-(i+1))+1 by omega]
   simpa using h2
theorem Wk{f:FuncId}{fn:Func}{c:Code}{vs:List Value}{w:World}{R:Ending->World->Prop}
 (hf:P.funcs[f]? =some fn) (hb:fn.body=some c) (hn:fn.ntmps=N) (h:WC P N c (bodyPost P fn R) (Ov 0 vs) w):Calls P f vs.toArray w R:=by
 refine calls_of_wp hf hb (h _ ⟨rfl,?_,?_⟩)
 ·simp [hn];omega
 ·intro t v ht
  obtain⟨_,h2⟩:=PL vs 0 t v ht
  have hlt:t<vs.length:=by
   rcases Nat.lt_or_ge t vs.length with h|h
   ·exact h
   ·simp [h]at h2
  simp at h2
  rw [Array.getElem?_append_left (by simpa using hlt)]
  simpa using h2
def Ni(P:Program)(K:KL)(w:World):List ResultVar->List Value->Prop
 |[],[]=>True
 | .tmp t::rs,v::vs=>kl K t=some v∧Ni P K w rs vs
 | .cell p ty::rs,v::vs=>(∃b,kl K p=some (.pointer (some ⟨b,0,none⟩))∧(loadVar ty ⟨b,0,none⟩).run P w= .ok v w)∧Ni P K w rs vs
 |_,_=>False
def EV:List Value->Value
 |[v]=>v
 |vs=>.tuple vs.toArray
def Qm(a:Act):ResultVar->Sem Value
 | .tmp t=>pure (a.tmps.getD t undef)
 | .cell p t=>do loadVar t (←asAddr (a.tmps.getD p undef))
theorem Fy{K a w}(h:Kn N K a):∀{rs vs},Ni P K w rs vs->(rs.mapM (Qm a)).run P w= .ok vs w
 |[],[],_=>by simp
 | .tmp t::rs,v::vs,⟨h1,h2⟩=>by
  have:=h.get t v h1
  have ih:=Fy h h2
  simp [Qm,Array.getD_eq_getD_getElem?,this,ih]
 | .cell p ty::rs,v::vs,⟨⟨b,h1,h3⟩,h2⟩=>by
  have:=h.get p _ h1
  have ih:=Fy h h2
  simp [Qm,Array.getD_eq_getD_getElem?,this,asAddr,h3,ih]
theorem Qn{fn:Func}{rs vs K w R}(hr:fn.results=rs.toArray)(ho:Ni P K w rs vs)(hR:R (.returned (EV vs)) w):∀a,Kn N K a->bodyPost P fn R .ret a w:=by
 intro a hK
 refine bodyPost_ret (v:=EV vs) ?_ hK.df hR
 have:=Fy (P:=P) hK ho
 have hfun:∀f:ResultVar->Sem Value,(∀r,f r=Qm a r)->(rs.mapM f).run P w= .ok vs w:=by
  intro f hf;rw [show f=Qm a from funext hf];exact this
 unfold results
 rw [hr,List.mapM_toArray]
 simp only [Sem.run_bind,Sem.run_map]
 rw [hfun _ (by intro r;cases r<;>rfl)]
 simp only [Result.andThen_ok,Sem.run_pure]
 match vs,ho with
 |[],_=>rfl
 |[v],_=>rfl
 |v::v'::vs,_=>simp [EV]
end
end Go.Eng
namespace Go.Eng
open Go Go.RowKit
section
variable {P:Program} {N:Nat}
/-! ## Guards, cuts -/
def Mz(ops:Array Oper)(j:Nat):Option Tmp:=(ops[j]?).bind (·.dst)
theorem Kn.yielded{K a ops j t b}(h:Kn N K a)(hs:Mz ops j=some t)(hb:kl K t=some (.bool b)):yielded ops a.tmps j=some b:=by
 have:=h.get t _ hb
 unfold Mz at hs
 simp [Go.yielded,hs,this]
section
variable {ops:Array Oper} {Q:Exit -> Act -> World -> Prop} {o:Oper} {rest l:List Oper} {K:KL} {w:World}
theorem Rt{K a j t b want}(h:Kn N K a)(hg:o.guard=some (j,want))(hs:Mz ops j=some t)(hb:kl K t=some (.bool b))(hw:b=want):Region.wanted o (yielded ops a.tmps)=true:=by
 subst hw;simp [Region.wanted,hg,h.yielded hs hb]
theorem Tc{K a j t b want}(h:Kn N K a)(hg:o.guard=some (j,want))(hs:Mz ops j=some t)(hb:kl K t=some (.bool b))(hw:b= !want):Region.wanted o (yielded ops a.tmps)=false:=by
 subst hw;simp [Region.wanted,hg,h.yielded hs hb]
theorem Om{l1 l2:List Oper}:∀{a w},wpList P ops (Exit.then (fun a' w'=>wpList P ops Q l2 a' w') Q) l1 a w->wpList P ops Q (l1++l2) a w:=by
 induction l1 with
 |nil=>intro a w h;exact h
 |cons o l1 ih=>
  intro a w h
  unfold wpList at h
  show wpList P ops Q (o::(l1++l2)) a w
  unfold wpList
  split at h
  ·rename_i hw
   rw [if_pos hw]
   refine h.imp (fun h=>?_) (fun h=>h)
   unfold Oper.wp at*
   generalize (execOp a.eval o).run P w=r at*
   cases r with
   |ok n w'=>
    cases n<;>simp only [Oper.upon]at h ⊢ <;>
     first
      |exact ih h
      |exact Calls.mono h (fun e w'' he=>by cases e<;>first|exact ih he|exact he)
      |exact Rows.mono h (fun _ _ he=>ih he)
      |exact h
   |halt x w'=>cases x<;>simp only [Oper.upon]at h ⊢ <;>exact h
  ·rename_i hw
   rw [if_neg hw]
   exact ih h
theorem TL.cut(k:Nat)(K':KL)(R:World->Prop)(h1:TL P N ops (Exit.then (fun a' w'=>Kn N K' a'∧R w') Q) (l.take k) K w)(h2:∀w',R w'->TL P N ops Q (l.drop k) K' w'):TL P N ops Q l K w:=by
 intro a hK
 rw [←List.take_append_drop k l]
 refine Om ?_
 have:=h1 a hK
 revert this
 generalize l.take k=l1
 intro h
 have mono:∀(l1:List Oper) a w,wpList P ops (Exit.then (fun a' w'=>Kn N K' a'∧R w') Q) l1 a w->wpList P ops (Exit.then (fun a' w'=>wpList P ops Q (l.drop k) a' w') Q) l1 a w:=by
  intro l1
  induction l1 with
  |nil=>intro a w h;exact h2 w h.2 a h.1
  |cons o l1 ih=>
   intro a w h
   unfold wpList at h ⊢
   split at h
   ·rename_i hw
    rw [if_pos hw]
    refine h.imp (fun h=>?_) (fun h=>h)
    unfold Oper.wp at*
    generalize (execOp a.eval o).run P w=r at*
    cases r with
    |ok n w'=>
     cases n<;>simp only [Oper.upon]at h ⊢ <;>
      first
       |exact ih _ _ h
       |exact Calls.mono h (fun e w'' he=>by cases e<;>first|exact ih _ _ he|exact he)
       |exact Rows.mono h (fun _ _ he=>ih _ _ he)
       |exact h
    |halt x w'=>cases x<;>simp only [Oper.upon]at h ⊢ <;>exact h
   ·rename_i hw
    rw [if_neg hw]
    exact ih _ _ h
 exact mono l1 a w h
/-! ## Regions whose order is drawn, all of whose operations are quiet -/
def QL(P:Program)(N:Nat)(ops:Array Oper)(w:World)(Qa:Act->Prop)(l:List Oper)(K:KL):Prop:=
 ∀a,Kn N K a->wpQuiet P ops (fun w'=>AR w w') Qa l a
def kL(P:Program)(N:Nat)(K:KL)(o:Oper)(w:World)(v:Value):Prop:=
 ∀a,Kn N K a->∀w',AR w w'->o.quietAt P a (fun w'=>AR w w') w' v
theorem EL.qui{v}(h:EL P N K o w v):kL P N K o w v:=by
 intro a hK w' he
 unfold Oper.quietAt
 rw [h a hK w' he]
 exact⟨rfl,rfl⟩
theorem Uk{f args tys vs v}(ho:o.op= .call { callee:=.value (.func f),args:=args,argTypes:=tys })(hf:Au P f=true)
 (ha:Ng K args.toList=some vs) (hc:∀w',AR w w'->Calls P f vs.toArray w' (Dn fun u w''=>u=v∧AR w' w'')):kL P N K o w v:=by
 intro a hK w' hw
 have he:args.map a.eval=vs.toArray:=by
  have:=hK.evs ha
  apply Array.ext'
  simpa using this
 have hr:(execOp a.eval o).run P w'= .ok (.enter f vs.toArray) w':=by
  simp [execOp,ho,resolve,Act.eval,Deferred.ofValue,invoke,he,OV hf]
 unfold Oper.quietAt
 rw [hr]
 exact⟨rfl,(hc w' hw).mono fun e w'' ⟨u,h1,h2,h3⟩=>by subst h1 h2;exact⟨rfl,hw.trans h3⟩⟩
variable {Qa:Act -> Prop}
theorem QL.nil(h:∀a,Kn N K a->Qa a):QL P N ops w Qa [] K:=fun a hK=>h a hK
theorem Nw{C:World->Prop}{l1 l2:List Oper}:∀{a},wpQuiet P ops C (fun a'=>wpQuiet P ops C Qa l2 a') l1 a->wpQuiet P ops C Qa (l1++l2) a:=by
 induction l1 with
 |nil=>intro a h;exact h
 |cons o l1 ih=>
  intro a h
  unfold wpQuiet at h
  show wpQuiet P ops C Qa (o::(l1++l2)) a
  unfold wpQuiet
  split at h
  ·rename_i hw
   rw [if_pos hw]
   obtain⟨v,h1,h2⟩:=h
   exact⟨v,h1,ih h2⟩
  ·rename_i hw
   rw [if_neg hw]
   exact ih h
theorem Pm{C:World->Prop}{Qa Qb:Act->Prop}(hm:∀a,Qa a->Qb a):∀{l1:List Oper} {a},wpQuiet P ops C Qa l1 a->wpQuiet P ops C Qb l1 a:=by
 intro l1
 induction l1 with
 |nil=>intro a h;exact hm _ h
 |cons o l1 ih=>
  intro a h
  unfold wpQuiet at h ⊢
  split at h
  ·rename_i hw
   rw [if_pos hw]
   obtain⟨v,h1,h2⟩:=h
   exact⟨v,h1,ih h2⟩
  ·rename_i hw
   rw [if_neg hw]
   exact ih h
theorem QL.cut(k:Nat)(K':KL)(h1:QL P N ops w (fun a'=>Kn N K' a') (l.take k) K)(h2:QL P N ops w Qa (l.drop k) K'):QL P N ops w Qa l K:=by
 intro a hK
 rw [←List.take_append_drop k l]
 exact Nw (Pm (fun a' h=>h2 a' h) (h1 a hK))
theorem WC.quiet{id:Nat}(hm:P.follows .mixedOrders=true)(hB:Region.lexB .any l.toArray=true)(h:QL P N l.toArray w (fun a'=>∀w',AR w w'->Q .normal a' w') l K):WC P N (.region id l.toArray true) Q K w:=
 fun a hK=>wp_region_quiet (C:=fun w'=>AR w w') hm hB (AR.drew w) (by simpa using h a hK)
end
end
end Go.Eng
namespace Go.Eng
open Go Go.RowKit
/-! ## Data in memory -/
abbrev Iv(lo hi:Nat):Nat->Prop:=fun k=>lo<=k∧k<hi
structure Cy(α:Type) where
 n:Nat
 rep:World->(Nat->Prop)->α->List Value->Prop
 len:∀{w S x vs},rep w S x vs->vs.length=n
 one:∀{w S x vs},rep w S x vs->vs.all Value.oneCell'=true
 mono:∀{w w' S S' x vs},rep w S x vs->(∀k,S k->S' k)->(∀k,S k->w'.heap[k]? =w.heap[k]?)->rep w' S' x vs
def AJ(k:IntKind):Cy Int where
 n:=1
 rep:=fun _ _ x vs=>vs=[.int k x]
 len:=fun h=>by rw [h];rfl
 one:=fun h=>by rw [h];rfl
 mono:=fun h _ _=>h
def BG:Cy Bool where
 n:=1
 rep:=fun _ _ x vs=>vs=[.bool x]
 len:=fun h=>by rw [h];rfl
 one:=fun h=>by rw [h];rfl
 mono:=fun h _ _=>h
def Ax:Cy ByteArray where
 n:=1
 rep:=fun _ _ x vs=>vs=[.string x]
 len:=fun h=>by rw [h];rfl
 one:=fun h=>by rw [h];rfl
 mono:=fun h _ _=>h
def Ba{α β:Type}(c:Cy α)(d:Cy β):Cy (α×β) where
 n:=c.n+d.n
 rep:=fun w S x vs=>∃us ts,vs=us++ts∧c.rep w S x.1 us∧d.rep w S x.2 ts
 len:=fun⟨us,ts,e,h1,h2⟩=>by rw [e,List.length_append,c.len h1,d.len h2]
 one:=fun⟨us,ts,e,h1,h2⟩=>by rw [e,List.all_append,c.one h1,d.one h2];rfl
 mono:=fun⟨us,ts,e,h1,h2⟩ a b=>⟨us,ts,e,c.mono h1 a b,d.mono h2 a b⟩
def Dl{α β:Type}(f:β->α)(c:Cy α):Cy β where
 n:=c.n
 rep:=fun w S x vs=>c.rep w S (f x) vs
 len:=fun h=>c.len h
 one:=fun h=>c.one h
 mono:=fun h a b=>c.mono h a b
def AD{α:Type}(c:Cy α)(w:World)(S:Nat->Prop)(xs:List α)(v:Value):Prop:=
 ∃a cap,v= .slice a xs.length cap∧(xs.length<=cap∧(a=none->cap=0))∧cap<=9223372036854775807∧
  (0<xs.length->∃b off,a=some ⟨b,off,none⟩∧S b∧∀i x,xs[i]? =some x->∃us,c.rep w S x us∧AO w b (off+i*c.n) us)
theorem AD.mono{α:Type}{c:Cy α}{w w':World}{S S':Nat->Prop}{xs:List α}{v:Value}(h:AD c w S xs v)(ha:∀k,S k->S' k)(hk:∀k,S k->w'.heap[k]? =w.heap[k]?):AD c w' S' xs v:=by
 obtain⟨a,cap,h1,h2,h3,h4⟩:=h
 refine⟨a,cap,h1,h2,h3,fun hl=>?_⟩
 obtain⟨b,off,h5,h6,h8⟩:=h4 hl
 refine⟨b,off,h5,ha b h6,fun i x hx=>?_⟩
 obtain⟨us,h9,h10⟩:=h8 i x hx
 exact⟨us,c.mono h9 ha hk,h10.block (hk b h6)⟩
def FT{α:Type}(c:Cy α):Cy (List α) where
 n:=1
 rep:=fun w S xs vs=>∃v,vs=[v]∧AD c w S xs v
 len:=fun⟨v,e,_⟩=>by rw [e];rfl
 one:=fun⟨v,e,a,cap,h,_⟩=>by rw [e,h];rfl
 mono:=fun⟨v,e,h⟩ ha hk=>⟨v,e,h.mono ha hk⟩
theorem AD.old{α:Type}{c:Cy α}{w w':World}{B lo hi:Nat}{xs:List α}{v:Value}(h:AD c w (Iv lo hi) xs v)(hB:Below B w w')(hle:hi<=B):AD c w' (Iv lo hi) xs v:=
 h.mono (fun _ h=>h) (fun k h2=>hB.block k (by have:=h2.2;omega))
theorem AD.wide{α:Type}{c:Cy α}{w:World}{lo hi lo' hi':Nat}{xs:List α}{v:Value}(h:AD c w (Iv lo hi) xs v)(h1:lo'<=lo:=by omega)(h2:hi<=hi':=by omega):AD c w (Iv lo' hi') xs v:=
 h.mono (fun k h=>⟨by have:=h.1;omega,by have:=h.2;omega⟩) (fun _ _=>rfl)
theorem AD.upd{α:Type}{c:Cy α}{w w':World}{b lo hi:Nat}{xs:List α}{v:Value}(h:AD c w (Iv lo hi) xs v)(hu:Gk b w w')(hne:b<lo∨hi<=b):AD c w' (Iv lo hi) xs v:=
 h.mono (fun _ h=>h) (fun k h=>hu.block k (by have:=h.1;have:=h.2;omega))
theorem Cy.old{α:Type}(c:Cy α){w w':World}{B lo hi:Nat}{x:α}{vs:List Value}(h:c.rep w (Iv lo hi) x vs)(hB:Below B w w')(hle:hi<=B):c.rep w' (Iv lo hi) x vs:=
 c.mono h (fun _ h=>h) (fun k h2=>hB.block k (by have:=h2.2;omega))
theorem AD.nil{α:Type}(c:Cy α)(w:World)(S:Nat->Prop):AD c w S [] (.slice none 0 0):=⟨none,0,rfl,⟨by simp,fun _=>rfl⟩,by simp,fun h=>by simp at h⟩
def AL{α:Type}(xs:List α)(i:Int):Option α:=if 0<=i then xs[i.toNat]? else none
theorem EM{α:Type}{xs:List α}{i:Int}{x:α}(h:AL xs i=some x):0<=i∧i<xs.length∧xs[i.toNat]? =some x:=by
 unfold AL at h
 split at h
 ·rename_i h0
  obtain⟨h1,_⟩:=List.getElem?_eq_some_iff.1 h
  exact⟨h0,by omega,h⟩
 ·cases h
section
variable {P:Program} {N:Nat}
def YE(P:Program)(N:Nat)(K:KL)(o:Oper)(w:World)(Ψ:Value->Prop):Prop:=∃v,EL P N K o w v∧Ψ v
section
variable {ops:Array Oper} {Q:Exit -> Act -> World -> Prop} {o:Oper} {rest l:List Oper} {K:KL} {w:World} {Qa:Act -> Prop} {Ψ:Value -> Prop}
theorem Ex{t x i e b off n c k m sz}(ho:o.op= .indexAddr t x i)(hu:P.underlying t=some (.slice e))(hc:BP P e=some sz)(hx:CL K x=some (.slice (some ⟨b,off,none⟩) n c))
 (hi:CL K i=some (.int k m)) (h0:0<=m) (h1:m<n):EL P N K o w (.pointer (some ⟨b,off+m.toNat*sz,none⟩)):=by
 intro a hK w' _
 obtain⟨i,hi2,hs⟩:=Option.map_eq_some_iff.1 hc
 simp [execOp,ho,hK.ev hx,hK.ev hi,Instr.indexAt,asIntOf,run_underlying hu,h0,h1,sizeOf,typeInfo,hi2,hs,Ct]
theorem Va{α:Type}{c:Cy α}{xs:List α}{y:α}{t x i e v k m S}(ho:o.op= .indexAddr t x i)(hu:P.underlying t=some (.slice e))(hc:BP P e=some c.n)(hx:CL K x=some v)
 (hi2:CL K i=some (.int k m)) (hs:AD c w S xs v) (hg:AL xs m=some y):
 YE P N K o w (fun u=>∃b off us,u= .pointer (some ⟨b,off,none⟩)∧S b∧c.rep w S y us∧AO w b off us):=by
 obtain⟨a,cap,rfl,h2,h3,h4⟩:=hs
 obtain⟨g0,g1,g2⟩:=EM hg
 obtain⟨b,off,rfl,h5,h7⟩:=h4 (by omega)
 obtain⟨us,h8,h9⟩:=h7 _ _ g2
 exact⟨_,Ex ho hu hc hx hi2 g0 g1,b,_,us,rfl,h5,h8,h9⟩
theorem cG{α:Type}{c:Cy α}{xs:List α}{t x e v S}(ho:o.op= .call { callee:=.builtin .len,args:=#[x],argTypes:=#[t] })(hu:P.underlying t=some (.slice e))(hx:CL K x=some v)(hs:AD c w S xs v):
 EL P N K o w (.int .i64 xs.length):=by
 obtain⟨a,cap,rfl,h2,h3,h4⟩:=hs
 exact Kv ho hu hx
end
section
variable {o:Oper} {K:KL} {w:World}
end
/-! ## What comes next -/
def NX(N:Nat)(Q:Exit->Act->World->Prop)(e:Exit)(K:KL)(w:World):Prop:=∀a,Kn N K a->Q e a w
section
variable {Q:Exit -> Act -> World -> Prop} {K:KL} {w:World} {f:Act -> World -> Prop} {ops:Array Oper}
theorem TL.done(h:NX N Q .normal K w):TL P N ops Q [] K w:=TL.nil h
theorem QL.done(h:∀w',AR w w'->NX N Q .normal K w'):QL P N ops w (fun a'=>∀w',AR w w'->Q .normal a' w') [] K:=QL.nil fun a hK w' he=>h w' he a hK
theorem WC.skip'(h:NX N Q .normal K w):WC P N .skip Q K w:=WC.skip h
theorem WC.exit'{id:Nat}(h:NX N Q (.exit id) K w):WC P N (.exit id) Q K w:=WC.exit h
theorem WC.ret'(h:NX N Q .ret K w):WC P N .ret Q K w:=WC.ret h
theorem NX.seq{y:Code}{Q':Exit->Act->World->Prop}(h:WC P N y Q' K w):NX N (Exit.then (fun a' w'=>y.wp P Q' a' w') Q) .normal K w:=h
theorem NX.then_n(h:∀a,Kn N K a->f a w):NX N (Exit.then f Q) .normal K w:=h
theorem NX.then_e{id:Nat}(h:NX N Q (.exit id) K w):NX N (Exit.then f Q) (.exit id) K w:=h
theorem NX.then_r(h:NX N Q .ret K w):NX N (Exit.then f Q) .ret K w:=h
theorem NX.blk_n{id:Nat}(h:NX N Q .normal K w):NX N (Exit.inBlock id Q) .normal K w:=h
theorem NX.blk_r{id:Nat}(h:NX N Q .ret K w):NX N (Exit.inBlock id Q) .ret K w:=h
theorem NX.blk_hit{id:Nat}(h:NX N Q .normal K w):NX N (Exit.inBlock id Q) (.exit id) K w:=fun a hK=>by
 show(if id=id then Q .normal a w else Q (.exit id) a w);rw [if_pos rfl];exact h a hK
theorem NX.blk_miss{id id':Nat}(hne:Nat.beq id' id=false)(h:NX N Q (.exit id') K w):NX N (Exit.inBlock id Q) (.exit id') K w:=fun a hK=>by
 have hn:¬id'=id:=fun e=>by subst e;simp at hne
 show(if id'=id then Q .normal a w else Q (.exit id') a w);rw [if_neg hn];exact h a hK
theorem NX.end{fn:Func}{rs vs R}(hr:fn.results=rs.toArray)(ho:Ni P K w rs vs)(hR:R (.returned (EV vs)) w):NX N (bodyPost P fn R) .ret K w:=Qn hr ho hR
theorem NX.end_n{fn:Func}{rs vs R}(hr:fn.results=rs.toArray)(ho:Ni P K w rs vs)(hR:R (.returned (EV vs)) w):NX N (bodyPost P fn R) .normal K w:=Qn (P:=P) hr ho hR
theorem BB{b ty T}{us:List Value}(ha:Ch P ty=some true)(hn:BP P ty=some us.length)(hb:Ae w b us T):(loadVar ty ⟨b,0,none⟩).run P w= .ok (.agg us.toArray) w:=by
 obtain⟨i,hi,hs⟩:=Option.map_eq_some_iff.1 hn
 have hl:(loadCells ⟨b,0,none⟩ us.length).run P w= .ok us.toArray w:=
  run_loadCells_list (P:=P) w ⟨b,0,none⟩ us (fun j v hv=>by rw [Ct];exact(hb.cells j v hv).1)
 simp [loadVar,Sem.run_bind,Kr ha,sizeOf,typeInfo,hi,hs,hl]
end
end
theorem AD.one{α:Type}{c:Cy α}{w:World}{S:Nat->Prop}{xs:List α}{v:Value}(h:AD c w S xs v):v.oneCell'=true:=by
 obtain⟨a,cap,rfl,_⟩:=h;rfl
theorem AD.cells{α:Type}{c:Cy α}{w:World}{S:Nat->Prop}{xs:List α}{v:Value}(h:AD c w S xs v):v.cells= #[v]:=by
 obtain⟨a,cap,rfl,_⟩:=h;rfl
theorem LM{α:Type}{b:Int}{a:Option α}{r:α}(h:(bif b==0 then none else a)=some r):b≠0∧a=some r:=by
 by_cases hb:b=0
 ·subst hb;cases h
 ·refine⟨hb,?_⟩
  have:(b==0)=false:=by simpa using hb
  rw [this]at h;exact h
theorem AK{α β:Type}{o:Option α}{f:α->Option β}{r:β}(h:Option.bind o f=some r):∃x,o=some x∧f x=some r:=by
 cases o with
 |none=>cases h
 |some x=>exact⟨x,rfl,h⟩
theorem ND{α:Type}{c:Bool}{a b:Option α}{r:α}(h:c=true)(hF:(bif c then a else b)=some r):a=some r:=by subst h;exact hF
theorem NC{α:Type}{c:Bool}{a b:Option α}{r:α}(h:c=false)(hF:(bif c then a else b)=some r):b=some r:=by subst h;exact hF
end Go.Eng
namespace Go.Eng
open Go Go.RowKit
class DU{α:Type}(c:Cy α):Prop where
 any:∀{w w' S S' x vs},c.rep w S x vs->c.rep w' S' x vs
instance (k:IntKind):DU (AJ k):=⟨fun h=>h⟩
instance:DU BG:=⟨fun h=>h⟩
instance:DU Ax:=⟨fun h=>h⟩
instance {α β:Type}(c:Cy α)(d:Cy β)[DU c][DU d]:DU (Ba c d):=⟨fun⟨us,ts,e,h1,h2⟩=>⟨us,ts,e,DU.any h1,DU.any h2⟩⟩
instance {α β:Type}(f:β->α)(c:Cy α)[h:DU c]:DU (Dl f c):=⟨fun k=>h.any k⟩
def BJ(cs:List Value)(n i:Nat):List Value:=(cs.drop (i*n)).take n
theorem Bs{cs:List Value}{n i j:Nat}(hj:j<n):(BJ cs n i)[j]? =cs[i*n+j]?:=by
 unfold BJ
 rw [List.getElem?_take,if_pos hj,List.getElem?_drop]
def AC{α:Type}(c:Cy α)(w:World)(B:Nat)(S:Nat->Prop)(e:TypeId)(xs:List α)(v:Value):Prop:=
 ∃cs,w.ownsRow B e c.n v xs.length cs∧∀i x,xs[i]? =some x->c.rep w S x (BJ cs c.n i)
section
variable {α:Type} {c:Cy α} {w w':World} {B:Nat} {S S':Nat -> Prop} {e:TypeId} {xs:List α} {v:Value}
theorem AC.blk(h:AC c w B S e xs v):∀g,v.ownBlock=some g->B<=g∧g<w.heap.size:=by
 obtain⟨cs,h1,_⟩:=h;exact h1.lt
theorem AC.one(h:AC c w B S e xs v):v.oneCell'=true:=by
 obtain⟨cs,⟨_,⟨rfl,_⟩|⟨g,cap,cur,rfl,_⟩⟩,_⟩:=h<;>rfl
theorem AC.cells(h:AC c w B S e xs v):v.cells= #[v]:=by
 obtain⟨cs,⟨_,⟨rfl,_⟩|⟨g,cap,cur,rfl,_⟩⟩,_⟩:=h<;>rfl
theorem AC.base(h:AC c w B S e xs v){B':Nat}(hB:B'<=B:=by omega):AC c w B' S e xs v:=by
 obtain⟨cs,⟨h1,h2⟩,h3⟩:=h
 refine⟨cs,⟨h1,?_⟩,h3⟩
 rcases h2 with h2|⟨g,cap,cur,hv,hb,rest⟩
 ·exact .inl h2
 ·exact .inr ⟨g,cap,cur,hv,by omega,rest⟩
theorem AC.nil(c:Cy α)(w:World)(B:Nat)(S:Nat->Prop)(e:TypeId):AC c w B S e [] (.slice none 0 0):=
 ⟨[],World.ownsRow_nil w B e c.n,fun i x h=>by simp at h⟩
theorem AC.keep(h:AC c w B S e xs v)(hg:∀g,v.ownBlock=some g->w'.heap[g]? =w.heap[g]?)(hS:∀k,S k->S' k)(hk:∀k,S k->w'.heap[k]? =w.heap[k]?):AC c w' B S' e xs v:=by
 obtain⟨cs,⟨h1,h2⟩,h3⟩:=h
 refine⟨cs,⟨h1,?_⟩,fun i x hx=>c.mono (h3 i x hx) hS hk⟩
 rcases h2 with h2|⟨g,cap,cur,rfl,hb,hh,rest⟩
 ·exact .inl h2
 ·exact .inr ⟨g,cap,cur,rfl,hb,(hg g rfl).trans hh,rest⟩
theorem AC.ext[DU c](h:AC c w B (Iv 0 0) e xs v)(he:AR w w'):AC c w' B (Iv 0 0) e xs v:=
 h.keep (fun g hg=>he.block g (h.blk g hg).2) (fun _ h=>h) (fun k h=>absurd h.2 (Nat.not_lt_zero k))
theorem AC.upd[DU c]{b:Nat}(h:AC c w B (Iv 0 0) e xs v)(hu:Gk b w w')(hne:∀g,v.ownBlock=some g->g≠b):AC c w' B (Iv 0 0) e xs v:=
 h.keep (fun g hg=>hu.block g (hne g hg)) (fun _ h=>h) (fun k h=>absurd h.2 (Nat.not_lt_zero k))
theorem AC.sl(h:AC c w B S e xs v)(hS:∀k,S k->S' k)(hB:∀k,B<=k->k<w.heap.size->S' k):AD c w S' xs v:=by
 obtain⟨cs,h0,h3⟩:=h
 have h1:=h0
 obtain⟨hl,⟨rfl,hn⟩|⟨g,cap,cur,rfl,hb,hh,h5,h6,h7,h8⟩⟩:=h1
 ·have:xs=[]:=List.eq_nil_of_length_eq_zero hn
  subst this;exact AD.nil _ _ _
 ·have hlt:g<w.heap.size:=(Array.getElem?_eq_some_iff.1 hh).1
  refine⟨some ⟨g,0,none⟩,cap,rfl,⟨h5,fun h=>by cases h⟩,by simpa [maxLen] using h6,fun hpos=>⟨g,0,rfl,hB g hb hlt,fun i x hx=>⟨_,c.mono (h3 i x hx) hS (fun _ _=>rfl),fun j u hu=>?_⟩⟩⟩
  have hjn:j<c.n:=by
   have:=(List.getElem?_eq_some_iff.1 hu).1
   simp [BJ]at this;omega
  rw [Bs hjn]at hu
  have:=h0.cells (g:=g) rfl _ _ hu
  rw [Ct]at this
  rw [show 0+i*c.n+j=0+(i*c.n+j) by omega];exact⟨this,by simp [World.frozen?,hh]⟩
theorem AC.slf[DU c]{lo hi:Nat}(h:AC c w B (Iv 0 0) e xs v)(h1:lo<=B:=by omega)(h2:w.heap.size<=hi:=by omega):AD c w (Iv lo hi) xs v:=
 h.sl (fun k h=>absurd h.2 (Nat.not_lt_zero k)) (fun k h3 h4=>⟨by omega,by omega⟩)
end
theorem PQ{α:Type}{xs:List α}{i j:Nat}{y x:α}(h:(xs.set i y)[j]? =some x):(i=j∧x=y)∨(i≠j∧xs[j]? =some x):=by
 rw [List.getElem?_set]at h
 split at h
 ·rename_i e;subst e
  split at h
  ·injection h with h;exact .inl ⟨rfl,h.symm⟩
  ·cases h
 ·rename_i e;exact .inr ⟨e,h⟩
def HQ(cs:List Value)(p:Nat)(us:List Value):List Value:=cs.take p++us++cs.drop (p+us.length)
theorem Lu{cs us:List Value}{p:Nat}(h:p+us.length<=cs.length):(HQ cs p us).length=cs.length:=by
 simp [HQ];omega
theorem HI{cs us:List Value}{p k:Nat}(h:p+us.length<=cs.length):(HQ cs p us)[k]? =if p<=k∧k<p+us.length then us[k-p]? else cs[k]?:=by
 have hp:(cs.take p).length=p:=by simp;omega
 unfold HQ
 by_cases h1:k<p
 ·rw [if_neg (by omega),List.append_assoc,List.getElem?_append_left (by omega),List.getElem?_take,if_pos h1]
 ·by_cases h2:k<p+us.length
  ·rw [if_pos (by omega),List.append_assoc,List.getElem?_append_right (by omega),hp,List.getElem?_append_left (by omega)]
  ·rw [if_neg (by omega),List.getElem?_append_right (by simp;omega),List.getElem?_drop]
   congr 1
   simp;omega
section
variable {P:Program} {N:Nat} {α:Type} {c:Cy α} {w:World} {B:Nat} {S:Nat -> Prop} {e:TypeId} {xs:List α} {v:Value} {o:Oper} {K:KL}
theorem QI{t x}(ho:o.op= .call { callee:=.builtin .len,args:=#[x],argTypes:=#[t] })(hu:P.underlying t=some (.slice e))(hx:CL K x=some v)(hs:AC c w B S e xs v):
 EL P N K o w (.int .i64 xs.length):=by
 obtain⟨cs,⟨_,⟨rfl,hn⟩|⟨g,cap,cur,rfl,_⟩⟩,_⟩:=hs
 ·have:=Kv (N:=N) (w:=w) ho hu hx;rw [hn];exact this
 ·exact Kv ho hu hx
theorem ML{y:α}{t x i k m}(ho:o.op= .indexAddr t x i)(hu:P.underlying t=some (.slice e))(hc:BP P e=some c.n)(hx:CL K x=some v)
 (hi2:CL K i=some (.int k m)) (hs:AC c w B S e xs v) (hg:AL xs m=some y):
 YE P N K o w (fun u=>∃g us,u= .pointer (some ⟨g,0+m.toNat*c.n,none⟩)∧v.ownBlock=some g∧c.rep w S y us∧AO w g (0+m.toNat*c.n) us):=by
 obtain⟨cs,h0,h3⟩:=hs
 obtain⟨g0,g1,g2⟩:=EM hg
 have h1:=h0
 obtain⟨hl,⟨rfl,hn⟩|⟨g,cap,cur,rfl,hb,hh,h5,h6,h7,h8⟩⟩:=h1
 ·omega
 ·refine⟨_,Ex ho hu hc hx hi2 g0 g1,g,_,rfl,rfl,h3 _ _ g2,fun j u hu=>?_⟩
  have hjn:j<c.n:=by
   have:=(List.getElem?_eq_some_iff.1 hu).1
   simp [BJ]at this;omega
  rw [Bs hjn]at hu
  have:=h0.cells (g:=g) rfl _ _ hu
  rw [Ct]at this
  rw [show 0+m.toNat*c.n+j=0+(m.toNat*c.n+j) by omega];exact⟨this,by simp [World.frozen?,hh]⟩
theorem Av{t x y u g m us us' y0 y'}(j off:Nat)(ho:o.op= .store t x y)(hx:CL K x=some (.pointer (some ⟨g,off,none⟩)))(hy:CL K y=some u)(hs:AC c w B S e xs v)
 (hg:v.ownBlock=some g) (hm:AL xs m=some y0) (hoff:off=0+m.toNat*c.n+j) (hn:BP P t=some u.cells.toList.length) (h1:u.cells.toList.all Value.oneCell'=true) (hrep:c.rep w S y0 us)
 (hcl:AO w g (0+m.toNat*c.n) us)
 (hus:us'=HQ us j u.cells.toList) (hfit:Nat.ble (j+u.cells.toList.length) us.length=true) (hrep':c.rep w S y' us') (hS:∀k,S k->k≠g):
 LG P N K o w (fun _ w'=>Gk g w w'∧AC c w' B S e (xs.set m.toNat y') v):=by
 obtain⟨cs,h0,h3⟩:=hs
 obtain⟨g0,g1,g2⟩:=EM hm
 have h1':=h0
 obtain⟨hl,⟨rfl,_⟩|⟨g',cap,cur,rfl,hb,hh,h5,h6,h7,h8⟩⟩:=h1'
 ·simp [Value.ownBlock]at hg
 simp [Value.ownBlock]at hg
 subst hg
 have hfit:=Nat.le_of_ble_eq_true hfit
 have husl:us.length=c.n:=c.len hrep
 have hmn:(m.toNat+1)*c.n<=xs.length*c.n:=Nat.mul_le_mul_right _ (by omega)
 rw [Nat.add_mul]at hmn
 have hcap:xs.length*c.n<=cap*c.n:=Nat.mul_le_mul_right _ h5
 obtain⟨ti,hi,hsz⟩:=Option.map_eq_some_iff.1 hn
 have hst:=run_storeCells_at P g' off e u.cells.toList 0 cur w hh (by rw [h7];omega) (List.all_eq_true.1 h1)
 simp only [Nat.add_zero]at hst
 intro a hK Kt Q hk
 have hr:(execOp a.eval o).run P w= .ok .skip (w.setRow g' (HQ cur.toList off u.cells.toList).toArray):=by
  simp [execOp,ho,hK.ev hx,hK.ev hy,Instr.storeAt,Instr.sureAddr,storeVar,Sem.run_bind,sizeOf,typeInfo,hi,hsz,HQ]at hst ⊢
  rw [hst]
  simp
 unfold Oper.wp
 rw [hr]
 clear hr hst h1 hy hsz hn ho
 revert hus hfit hk
 generalize u.cells.toList=us2
 intro hus hfit hk
 refine hk _ _ ⟨Gk.setRow _ _ _,HQ cs off us2,⟨?_,.inr ⟨g',cap,_,by simp,hb,setRow_heap w g' cur _ e _ hh,by simpa using h5,h6,?_,?_⟩⟩,?_⟩
 ·rw [Lu (by rw [hl];omega),hl];simp
 ·have:=Lu (cs:=cur.toList) (us:=us2) (p:=off) (by simp [h7];omega)
  simp only [List.size_toArray,this];simpa using h7
 ·apply List.ext_getElem?
  intro k
  rw [List.length_set]
  simp only [List.toList_toArray]
  rw [List.getElem?_take,HI (cs:=cs) (by rw [hl];omega)]
  split
  ·rename_i hk2
   rw [HI (by simp [h7];omega)]
   split
   ·rfl
   ·rw [←h8,List.getElem?_take,if_pos hk2]
  ·rename_i hk2
   rw [if_neg (by omega)]
   symm;rw [List.getElem?_eq_none];omega
 ·intro i x hx2
  rcases PQ hx2 with ⟨rfl,rfl⟩|⟨hne,hx3⟩
  ·have e1:BJ (HQ cs off us2) c.n m.toNat=us':=by
    apply List.ext_getElem?
    intro q
    by_cases hq:q<c.n
    ·rw [Bs hq,HI (by rw [hl];omega),hus,HI (by omega)]
     have hcq:cs[m.toNat*c.n+q]? =us[q]?:=by
      have a1:us[q]? =some (us[q]'(by omega)):=List.getElem?_eq_getElem _
      have a2:=(hcl q _ a1).1
      have hlt2:m.toNat*c.n+q<cs.length:=by rw [hl];omega
      have a3:=h0.cells (g:=g') rfl (m.toNat*c.n+q) _ (List.getElem?_eq_getElem hlt2)
      rw [Ct]at a3
      rw [show 0+m.toNat*c.n+q=0+(m.toNat*c.n+q) by omega,a3]at a2
      rw [a1,List.getElem?_eq_getElem hlt2];exact a2
     split
     ·rename_i hc2
      rw [if_pos (by omega)];congr 1;omega
     ·rename_i hc2
      rw [if_neg (by omega)];exact hcq
    ·rw [List.getElem?_eq_none (by simp [BJ];omega),List.getElem?_eq_none]
     rw [hus,Lu (by omega)];omega
   rw [e1]
   exact c.mono hrep' (fun _ h=>h) (fun k hk3=>setRow_other _ _ _ _ (hS k hk3))
  ·have e1:BJ (HQ cs off us2) c.n i=BJ cs c.n i:=by
    have hilt:i<xs.length:=(List.getElem?_eq_some_iff.1 hx3).1
    apply List.ext_getElem?
    intro q
    by_cases hq:q<c.n
    ·rw [Bs hq,Bs hq,HI (by rw [hl];omega)]
     rw [if_neg]
     rcases Nat.lt_or_gt_of_ne hne with h|h
     ·have:(m.toNat+1)*c.n<=i*c.n:=Nat.mul_le_mul_right _ h
      rw [Nat.add_mul]at this;omega
     ·have:(i+1)*c.n<=m.toNat*c.n:=Nat.mul_le_mul_right _ h
      rw [Nat.add_mul]at this;omega
    ·rw [List.getElem?_eq_none (by simp [BJ];omega),List.getElem?_eq_none (by simp [BJ];omega)]
   rw [e1]
   exact c.mono (h3 i x hx3) (fun _ h=>h) (fun k hk3=>setRow_other _ _ _ _ (hS k hk3))
/-! ### make -/
def Oe(m:Int)(bytes:Nat):Option Nat:=if 0<=m∧m*bytes<=281474976710656∧m<=9223372036854775807 then some m.toNat else none
def DP(P:Program)(t:Nat):Option (List Value×Nat×Nat):=(P.info? t).bind fun i=>i.zero.map fun z=>(z.cells.toList,i.size,i.bytes)
theorem Nq{zs:List Value}{k i:Nat}(hi:i<k)(hz:0<zs.length):BJ (madeCells zs.toArray (k*zs.length)).toList zs.length i=zs:=by
 apply List.ext_getElem?
 intro q
 by_cases hq:q<zs.length
 ·rw [Bs hq]
  have:(i+1)*zs.length<=k*zs.length:=Nat.mul_le_mul_right _ hi
  rw [Nat.add_mul]at this
  simp only [madeCells,Array.toList_map,Array.toList_range,List.getElem?_map]
  rw [List.getElem?_range (by omega)]
  simp [Nat.mul_add_mod_self_right,Nat.mod_eq_of_lt hq,hq]
 ·rw [List.getElem?_eq_none (by simp [BJ];omega),List.getElem?_eq_none (by omega)]
theorem CB{t l c2 zs sz by' m m' k z kd kd'}(ho:o.op= .makeSlice t l c2)(hu:P.underlying t=some (.slice e))(hi:DP P e=some (zs,sz,by'))(hl:CL K l=some (.int kd m))(hc:CL K c2=some (.int kd' m'))(hmm:m'=m)
 (hk:Oe m by'=some k) (hsz:sz=c.n) (hpos:Nat.blt 0 c.n=true) (hz:∀w,c.rep w (Iv 0 0) z zs):
 LG P N K o w (fun u w'=>∃g,u= .slice (some ⟨g,0,none⟩) k k∧g=w.heap.size∧w'.heap.size=w.heap.size+1∧AR w w'∧AC c w' g (Iv 0 0) e (List.replicate k z) u):=by
 subst hmm
 unfold DP at hi
 obtain⟨i,hi1,hi2⟩:=Option.bind_eq_some_iff.1 hi
 obtain⟨zv,hz1,hz2⟩:=Option.map_eq_some_iff.1 hi2
 simp only [Prod.mk.injEq]at hz2
 obtain⟨e1,e2,e3⟩:=hz2
 unfold Oe at hk
 split at hk
 ·rename_i hm
  injection hk with hk
  have hlen:zs.length=c.n:=c.len (hz w)
  have hr:=run_make (P:=P) w t e i zv hu hi1 hz1 kd kd' m' m' hm.1 (Int.le_refl _) (by rw [e3,Int.mul_comm];exact hm.2.1) hm.2.2
  intro a hK Kt Q hkk
  have hr2:(execOp a.eval o).run P w= .ok (.value (.slice (some ⟨w.heap.size,0,none⟩) m'.toNat m'.toNat)) (w.alloc (.cells (madeCells zv.cells (m'.toNat*i.size)) e)):=by
   simp [execOp,ho,hK.ev hl,hK.ev hc,hr]
  unfold Oper.wp
  rw [hr2]
  refine hkk _ _ ⟨w.heap.size,by rw [hk],rfl,by simp,AR.alloc _ _,?_⟩
  have hp:0<c.n:=by have h:=hpos;simp [Nat.blt]at h;omega
  have hzc:zv.cells=zs.toArray:=by rw [←e1]
  refine⟨(madeCells zv.cells (m'.toNat*i.size)).toList,⟨?_,.inr ⟨w.heap.size,k,_,by rw [List.length_replicate,hk],Nat.le_refl _,heap_alloc_new w _,by simp,by simp only [maxLen];omega,?_,?_⟩⟩,?_⟩
  ·simp [size_madeCells,e2,hsz,hk]
  ·simp [size_madeCells,e2,hsz,hk]
  ·rw [List.take_of_length_le];simp [size_madeCells,e2,hsz,hk]
  ·intro q x hx
   have hq:q<k:=by have:=(List.getElem?_eq_some_iff.1 hx).1;simpa using this
   have hxz:x=z:=by simpa [hq] using hx.symm
   subst hxz
   rw [hzc,e2,hsz,←hlen,hk,Nq hq (by omega)]
   exact c.mono (hz w) (fun _ h=>h) (fun k h=>absurd h.2 (Nat.not_lt_zero k))
 ·cases hk
end
end Go.Eng
namespace Go.Eng
open Go Go.RowKit
/-! ## append, literals -/
def CA{α:Type}(xs ys:List α)(bytes:Nat):Option (List α):=if (xs.length+ys.length)*bytes<=140737488355328∧xs.length+ys.length<=9223372036854775807 then some (xs++ys)else none
def Bk:List (List Value)->List Value
 |[]=>[]
 |us::uss=>us++Bk uss
theorem Gp{n:Nat}:∀{uss:List (List Value)},(∀us∈uss,us.length=n)->(Bk uss).length=uss.length*n
 |[],_=>by simp [Bk]
 |us::uss,h=>by
  simp only [Bk,List.length_append,List.length_cons,Nat.add_mul]
  rw [h us (List.mem_cons_self ..),Gp (fun x hx=>h x (List.mem_cons_of_mem _ hx))]
  omega
theorem It{n:Nat}:∀{uss:List (List Value)} {i q:Nat} {us:List Value},(∀us∈uss,us.length=n)->uss[i]? =some us->q<n->(Bk uss)[i*n+q]? =us[q]?
 |[],i,q,us,_,h,_=>by simp at h
 |u0::uss,0,q,us,hl,h,hq=>by
  simp at h;subst h
  simp only [Bk]
  rw [List.getElem?_append_left (by rw [hl u0 (List.mem_cons_self ..)];omega)]
  congr 1;omega
 |u0::uss,i+1,q,us,hl,h,hq=>by
  have hl0:=hl u0 (List.mem_cons_self ..)
  simp only [Bk]
  rw [List.getElem?_append_right (by rw [hl0,Nat.add_mul];omega)]
  have:=It (uss:=uss) (i:=i) (q:=q) (fun x hx=>hl x (List.mem_cons_of_mem _ hx)) (by simpa using h) hq
  rw [←this]
  congr 1
  rw [hl0,Nat.add_mul];omega
theorem LO{n:Nat}{uss:List (List Value)}{i:Nat}{us:List Value}(hl:∀us∈uss,us.length=n)(h:uss[i]? =some us):BJ (Bk uss) n i=us:=by
 have hus:=hl us (List.mem_of_getElem? h)
 apply List.ext_getElem?
 intro q
 by_cases hq:q<n
 ·rw [Bs hq,It hl h hq]
 ·rw [List.getElem?_eq_none (by simp [BJ];omega),List.getElem?_eq_none (by omega)]
theorem AD.all'{α:Type}{c:Cy α}{w:World}{S:Nat->Prop}{xs:List α}{v:Value}(h:AD c w S xs v)(hn:0<c.n):
 ∃uss:List (List Value),uss.length=xs.length∧(∀us∈uss,us.length=c.n)∧(∀(i:Nat) (x:α) (us:List Value),xs[i]? =some x->uss[i]? =some us->c.rep w S x us)∧
  ∃(a:Option Addr) (cap:Nat),v= .slice a xs.length cap∧(a=none->cap=0)∧(xs.length=0∨∃b off,a=some ⟨b,off,none⟩∧S b∧∀j u,(Bk uss)[j]? =some u->w.cell? ⟨b,off+j,none⟩=some u):=by
 obtain⟨a,cap,rfl,h2,h3,h4⟩:=h
 by_cases hl:0<xs.length
 ·obtain⟨b,off,rfl,hb,h5⟩:=h4 hl
  have hch:∀i,i<xs.length->∃us,∀x,xs[i]? =some x->c.rep w S x us∧AO w b (off+i*c.n) us:=by
   intro i hi
   obtain⟨us,h6⟩:=h5 i _ (List.getElem?_eq_getElem hi)
   refine⟨us,fun x hx=>?_⟩
   have:x=xs[i]:=by rw [List.getElem?_eq_getElem hi]at hx;exact(Option.some.inj hx).symm
   subst this;exact h6
  obtain⟨f,hf⟩:=Go.Deep.choose_lt hch
  have hlen:∀us∈(List.range xs.length).map f,us.length=c.n:=by
   intro us hus
   obtain⟨i,hi,rfl⟩:=List.mem_map.1 hus
   exact c.len (hf i (List.mem_range.1 hi) _ (List.getElem?_eq_getElem (List.mem_range.1 hi))).1
  refine⟨(List.range xs.length).map f,by simp,hlen,?_,some ⟨b,off,none⟩,cap,rfl,h2.2,.inr ⟨b,off,rfl,hb,?_⟩⟩
  ·intro i x us hx hus
   have hi:i<xs.length:=(List.getElem?_eq_some_iff.1 hx).1
   simp [hi]at hus;subst hus
   exact(hf i hi x hx).1
  ·intro j u hu
   have hj:j<xs.length*c.n:=by
    have:=(List.getElem?_eq_some_iff.1 hu).1
    rw [Gp hlen]at this;simpa using this
   have hi:j/c.n<xs.length:=Nat.div_lt_of_lt_mul (by rw [Nat.mul_comm];exact hj)
   have hd:j/c.n*c.n+j%c.n=j:=by rw [Nat.mul_comm];exact Nat.div_add_mod j c.n
   have hg:=It (uss:=(List.range xs.length).map f) (i:=j/c.n) (q:=j%c.n) (us:=f (j/c.n)) hlen (by simp [hi]) (Nat.mod_lt _ hn)
   rw [hd,hu]at hg
   have:=(hf _ hi _ (List.getElem?_eq_getElem hi)).2 (j%c.n) u hg.symm
   rw [show off+j/c.n*c.n+j%c.n=off+j by omega]at this;exact this.1
 ·refine⟨[],by simp;omega,by simp,fun i x us hx hus=>by simp at hus,a,cap,rfl,h2.2,.inl (by omega)⟩
theorem SP{P:Value->Bool}:∀{uss:List (List Value)},(∀us∈uss,us.all P=true)->∀u∈Bk uss,P u=true
 |[],_=>by simp [Bk]
 |us::uss,h=>by
  intro u hu
  simp only [Bk,List.mem_append]at hu
  rcases hu with hu|hu
  ·exact List.all_eq_true.1 (h us (List.mem_cons_self ..)) u hu
  ·exact SP (fun x hx=>h x (List.mem_cons_of_mem _ hx)) u hu
section
variable {P:Program} {N:Nat} {α:Type} {c:Cy α} {w:World} {B:Nat} {S S' S2:Nat -> Prop} {e:TypeId} {xs ys zs:List α} {v:Value} {o:Oper} {K:KL}
def AQ(w w':World)(v v':Value):Prop:=w.grownBy w' v.ownBlock∧∀g,v'.ownBlock=some g->v.ownBlock=some g∨w.heap.size<=g
theorem Ls{t x y u zc sz by'}(ho:o.op= .call { callee:=.builtin .append,args:=#[x,y],argTypes:=#[t,t] })(hu:P.underlying t=some (.slice e))(hi:DP P e=some (zc,sz,by'))(hsz:sz=c.n)(hzc:zc.length=sz)
 (hpos:Nat.blt 0 c.n=true) (hx:CL K x=some v) (hy:CL K y=some u) (hs:AC c w B S e xs v) (hb:B<=w.heap.size) (hr:AD c w S2 ys u) (ha:CA xs ys by'=some zs)
 (hS:∀k,S k->S' k) (hS2:∀x us,c.rep w S2 x us->c.rep w S' x us) (hS3:∀k,S' k->k<w.heap.size∧v.ownBlock≠some k):
 LG P N K o w (fun v' w'=>AC c w' B S' e zs v'∧AQ w w' v v'):=by
 have hp:0<c.n:=by have h:=hpos;simp [Nat.blt]at h;omega
 obtain⟨cs,h0,h3⟩:=hs
 obtain⟨uss,hul,hun,hur,a,cap,rfl,hnone,hcase⟩:=AD.all' hr hp
 unfold DP at hi
 obtain⟨i,hi1,hi2⟩:=Option.bind_eq_some_iff.1 hi
 obtain⟨z,hz1,hz2⟩:=Option.map_eq_some_iff.1 hi2
 simp only [Prod.mk.injEq]at hz2
 obtain⟨e1,e2,e3⟩:=hz2
 unfold CA at ha
 split at ha
 case isFalse=>cases ha
 rename_i hbound
 injection ha with ha;subst ha
 intro a' hK Kt Q hk
 have hcl:(Bk uss).length=ys.length*c.n:=by rw [Gp hun,hul]
 have elems:∀(w':World),w.grownBy w' v.ownBlock->∀q x,(xs++ys)[q]? =some x->c.rep w' S' x (BJ (cs++Bk uss) c.n q):=by
  intro w' hgr q x hx2
  have keep:∀k,S' k->w'.heap[k]? =w.heap[k]?:=fun k hk=>hgr.block k (hS3 k hk).1 (fun e=>(hS3 k hk).2 e.symm)
  by_cases hq:q<xs.length
  ·rw [List.getElem?_append_left hq]at hx2
   have e4:BJ (cs++Bk uss) c.n q=BJ cs c.n q:=by
    apply List.ext_getElem?
    intro j
    by_cases hj:j<c.n
    ·rw [Bs hj,Bs hj,List.getElem?_append_left]
     have:(q+1)*c.n<=xs.length*c.n:=Nat.mul_le_mul_right _ hq
     rw [Nat.add_mul]at this;rw [h0.1];omega
    ·rw [List.getElem?_eq_none (by simp [BJ];omega),List.getElem?_eq_none (by simp [BJ];omega)]
   rw [e4];exact c.mono (h3 q x hx2) hS (fun k hk=>keep k (hS k hk))
  ·rw [List.getElem?_append_right (by omega)]at hx2
   have hq2:q-xs.length<uss.length:=by rw [hul];exact(List.getElem?_eq_some_iff.1 hx2).1
   have e4:BJ (cs++Bk uss) c.n q=uss[q-xs.length]:=by
    have:=LO (i:=q-xs.length) hun (List.getElem?_eq_getElem hq2)
    rw [←this]
    apply List.ext_getElem?
    intro j
    by_cases hj:j<c.n
    ·rw [Bs hj,Bs hj]
     have h5:xs.length*c.n<=q*c.n:=Nat.mul_le_mul_right _ (by omega)
     rw [List.getElem?_append_right (by rw [h0.1];omega)]
     congr 1
     rw [h0.1,Nat.sub_mul];omega
    ·rw [List.getElem?_eq_none (by simp [BJ];omega),List.getElem?_eq_none (by simp [BJ];omega)]
   rw [e4];exact c.mono (hS2 _ _ (hur _ x _ hx2 (List.getElem?_eq_getElem hq2))) (fun _ h=>h) (fun k hk=>keep k hk)
 have hzs2:z.cells.size=c.n:=by rw [←hsz,←hzc,←e1];simp
 have one:∀u∈Bk uss,u.oneCell'=true:=SP fun us hus=>by
  obtain⟨q,hq,rfl⟩:=List.mem_iff_getElem.1 hus
  exact c.one (hur q _ _ (List.getElem?_eq_getElem (by omega)) (List.getElem?_eq_getElem hq))
 have step:∀v' w',(Builtin.append_ #[t,t] o.type #[v,.slice a ys.length cap]).run P w= .ok v' w'->(execOp a'.eval o).run P w= .ok (.value v') w':=by
  intro v' w' hrun
  unfold execOp
  simp only [ho,resolve,invoke,builtin,Sem.run_bind,Sem.run_pure,Result.andThen_ok,List.map_toArray,List.map_cons,List.map_nil,hK.ev hx,hK.ev hy,hrun]
 cases a with
 |none=>
  have hc0:=hnone rfl
  subst hc0
  have hy0:ys.length=0:=by
   rcases hcase with h|⟨b,off,h,_⟩
   ·exact h
   ·cases h
  have hys:ys=[]:=List.eq_nil_of_length_eq_zero hy0
  subst hys
  have hrun:=run_append_owned_none (P:=P) w B t o.type e i c.n hu hi1 v xs.length cs h0
  unfold Oper.wp
  rw [step v w hrun]
  have hgr:w.grownBy w v.ownBlock:=World.grownBy.refl w _
  have huss:uss=[]:=List.eq_nil_of_length_eq_zero (by simpa using hul)
  subst huss
  refine hk _ _ ⟨⟨cs,by simpa using h0,fun q x hx2=>?_⟩,hgr,fun g hg=>.inl hg⟩
  have:=elems w hgr q x hx2
  simpa [Bk] using this
 |some ad=>
  have hnews:∀j u,(Bk uss)[j]? =some u->w.cell? (ad.add j)=some u:=by
   intro j u hu2
   rcases hcase with h|⟨b,off,h,_,h5⟩
   ·have:uss=[]:=List.eq_nil_of_length_eq_zero (by omega)
    subst this;simp [Bk]at hu2
   ·injection h with h;subst h
    rw [Ct];exact h5 j u hu2
  have hb2:(xs.length+ys.length)*by'<=140737488355328:=hbound.1
  obtain⟨v',w',hrun,hown,hgr,_⟩:=run_append_own (P:=P) w B t o.type e i z c.n by' hu hi1 hz1 (by rw [e2,hsz]) e3 hzs2 hp v xs.length cs h0 ad ys.length cap (Bk uss) hcl hnews one (by simp only [maxLen];omega) hb2 hb
  have hfresh:∀g,v'.ownBlock=some g->v.ownBlock=some g∨w.heap.size<=g:=by
   rcases h0.2 with ⟨rfl,hn⟩|⟨g0,cap0,cur,rfl,hbg,hh,h5,h6,h7,h8⟩
   ·have hnil:w.ownsRow w.heap.size e c.n (.slice none 0 0) xs.length cs:=⟨h0.1,.inl ⟨rfl,hn⟩⟩
    obtain⟨v2,w2,hrun2,hown2,_⟩:=run_append_own (P:=P) w w.heap.size t o.type e i z c.n by' hu hi1 hz1 (by rw [e2,hsz]) e3 hzs2 hp _ xs.length cs hnil ad ys.length cap (Bk uss) hcl hnews one (by simp only [maxLen];omega) hb2 (Nat.le_refl _)
    rw [hrun]at hrun2
    injection hrun2 with e5 e6
    subst e5
    intro g hg;exact .inr (hown2.lt g hg).1
   ·by_cases hroom:xs.length+ys.length<=cap0
    ·have hfit:xs.length*i.size+(Bk uss).length<=cur.size:=by
      rw [hcl,h7,e2,hsz,←Nat.add_mul];exact Nat.mul_le_mul_right _ hroom
     have hr2:=run_append_room (P:=P) w t o.type e i hu hi1 g0 xs.length cap0 cur hh ad ys.length cap (Bk uss) (by rw [e2,hsz];exact hcl) hnews one hroom hfit
     rw [hrun]at hr2
     injection hr2 with e5 e6
     subst e5
     intro g hg;exact .inl hg
    ·have holds:∀j u,cs[j]? =some u->w.cell? ((⟨g0,0,none⟩:Addr).add j)=some u:=h0.cells (g:=g0) rfl
     have hr2:=run_append_grow (P:=P) w t o.type e i z hu hi1 hz1 ⟨g0,0,none⟩ xs.length cap0 cs (by rw [e2,hsz];exact h0.1) holds ad ys.length cap (Bk uss) (by rw [e2,hsz];exact hcl) hnews (by omega) (by omega) (growslice_fits (by omega) (by rw [e3];exact hb2))
     rw [hrun]at hr2
     injection hr2 with e5 e6
     subst e5
     intro g hg
     simp [Value.ownBlock]at hg
     exact .inr (by omega)
  unfold Oper.wp
  rw [step v' w' hrun]
  exact hk _ _ ⟨⟨cs++Bk uss,by simpa using hown,elems w' hgr⟩,hgr,hfresh⟩
end
end Go.Eng
namespace Go.Eng
open Go Go.RowKit
/-! ## Literals -/
def Jj(pl:List (Nat×Nat)):List Value->List (Nat×List Value)->Option (List Value)
 |zs,[]=>some zs
 |zs,(i,us)::ps=>match pl[i]? with
  |none=>none
  |some (off,size)=>if Nat.beq us.length size&&Nat.ble (off+us.length) zs.length then Jj pl (zs.take off++us++zs.drop (off+us.length)) ps else none
theorem TN(us:List Value):∀(off k:Nat) (cs:Array Value),off+k+us.length<=cs.size->
 ((us.zipIdx k).foldl (fun cs (p:Value×Nat)=>cs.setIfInBounds (off+p.2) p.1) cs).toList=cs.toList.take (off+k)++us++cs.toList.drop (off+k+us.length):=by
 induction us with
 |nil=>intro off k cs h;simp
 |cons u us ih=>
  intro off k cs h
  simp only [List.length_cons]at h
  simp only [List.zipIdx_cons,List.foldl_cons]
  rw [ih off (k+1) _ (by simp;omega)]
  apply List.ext_getElem?
  intro j
  simp only [Array.toList_setIfInBounds,List.length_cons]
  have e1:off+(k+1)=off+k+1:=by omega
  have e2:off+k+1+us.length=off+k+(us.length+1):=by omega
  rw [e1,e2]
  have hl:(cs.toList.take (off+k)).length=off+k:=by simp;omega
  have hl2:((cs.toList.set (off+k) u).take (off+k+1)).length=off+k+1:=by simp;omega
  by_cases h1:j<off+k
  ·rw [List.append_assoc,List.getElem?_append_left (by omega),List.append_assoc,List.getElem?_append_left (by omega),List.getElem?_take,List.getElem?_take,if_pos (by omega),if_pos h1,List.getElem?_set_ne (by omega)]
  ·by_cases h2:j=off+k
   ·subst h2
    rw [List.append_assoc,List.getElem?_append_left (by omega),List.append_assoc,List.getElem?_append_right (by omega),hl,List.getElem?_take,if_pos (by omega),List.getElem?_set_self (by simp;omega)]
    simp
   ·by_cases h3:j<off+k+(us.length+1)
    ·rw [List.append_assoc,List.getElem?_append_right (by omega),hl2,List.getElem?_append_left (by omega),List.append_assoc,List.getElem?_append_right (by omega),hl,List.cons_append,show j-(off+k)=(j-(off+k+1))+1 by omega,List.getElem?_cons_succ,List.getElem?_append_left (by omega)]
    ·rw [List.getElem?_append_right (by simp;omega),List.getElem?_append_right (by simp;omega),List.getElem?_drop,List.getElem?_drop]
     simp only [List.length_append,hl,hl2,List.length_cons]
     rw [List.getElem?_set_ne (by omega)]
     congr 1;omega
theorem NW{place:Nat->Option (Nat×Nat)}{pl:List (Nat×Nat)}(hp:∀i x,pl[i]? =some x->place i=some x):∀(ps:List (Nat×Value)) (uss:List (Nat×List Value)) (cs:Array Value) (out:List Value),
 ps.map (fun p=>(p.1,p.2.cells.toList))=uss->Jj pl cs.toList uss=some out->Instr.fill place cs ps=some out.toArray
 |[],uss,cs,out,h,hf=>by
  simp at h;subst h
  simp [Jj]at hf;subst hf
  simp [Instr.fill]
 |(i,v)::ps,uss,cs,out,h,hf=>by
  simp at h;subst h
  simp only [Jj]at hf
  split at hf
  ·cases hf
  ·rename_i off size hpl
   split at hf
   ·rename_i hc
    simp only [Bool.and_eq_true,Array.length_toList]at hc
    have hc1:v.cells.size=size:=Nat.eq_of_beq_eq_true hc.1
    have hc2:off+v.cells.size<=cs.size:=Nat.le_of_ble_eq_true hc.2
    rw [Instr.fill,hp i _ hpl]
    simp only
    rw [if_neg (by simp [hc1];omega)]
    refine NW hp ps _ _ out rfl ?_
    have:=TN v.cells.toList off 0 cs (by simp;omega)
    have e:(v.cells.zipIdx.foldl (fun cs (p:Value×Nat)=>cs.setIfInBounds (off+p.2) p.1) cs).toList=cs.toList.take off++v.cells.toList++cs.toList.drop (off+v.cells.toList.length):=by
     rw [←Array.foldl_toList,Array.toList_zipIdx]
     simpa using this
    rw [e];exact hf
   ·cases hf
def CZ(P:Program)(t:Nat):Option (List (Nat×Nat)):=
 match P.underlying t with
 |some (.struct fs)=>fs.toList.mapM fun f=>(P.info? f.type).map fun i=>(f.offset,i.size)
 |some (.array n e)=>(P.info? e).map fun i=>(List.range n).map fun k=>(k*i.size,i.size)
 |_=>none
def Im(K:KL):List (Nat×Operand)->Option (List (Nat×Value))
 |[]=>some []
 |(i,x)::xs=>match CL K x,Im K xs with|some v,some vs=>some ((i,v)::vs)|_,_=>none
section
variable {P:Program} {N:Nat} {α:Type} {c:Cy α} {w:World} {B:Nat} {S S':Nat -> Prop} {e:TypeId} {xs ys zs:List α} {v:Value} {o:Oper} {K:KL}
theorem Kn.parts{a}(h:Kn N K a):∀{xs vs},Im K xs=some vs->xs.map (fun(p:Nat×Operand)=>(p.1,a.eval p.2))=vs
 |[],vs,e=>by simp [Im]at e;subst e;rfl
 |(i,x)::xs,vs,e=>by
  unfold Im at e
  split at e
  ·rename_i v vs' h1 h2
   injection e with e;subst e
   simp [h.ev h1,h.parts h2]
  ·cases e
theorem Rb{fs:List Field}{pl:List (Nat×Nat)}(h:fs.mapM (fun f=>(P.info? f.type).map fun i=>(f.offset,i.size))=some pl)(w:World):
 (fs.mapM (m:=Sem) fun f=>do pure (f.offset,←sizeOf f.type)).run P w= .ok pl w:=by
 induction fs generalizing pl with
 |nil=>simp at h;subst h;simp
 |cons f fs ih=>
  simp only [List.mapM_cons,Option.bind_eq_bind,Option.bind_eq_some_iff,Option.pure_def,Option.some.injEq]at h
  obtain⟨p,h1,ps,h2,rfl⟩:=h
  obtain⟨i,hi,rfl⟩:=Option.map_eq_some_iff.1 h1
  have:=ih h2
  simp [List.mapM_cons,sizeOf,typeInfo,hi]at this ⊢
  simp [this]
theorem An{t parts vs uss zc pl out}(ho:o.op= .build t parts)(hp:Im K parts.toList=some vs)(hz:Dr P t=some zc)(hpl:CZ P t=some pl)
 (hu:vs.map (fun p=>(p.1,p.2.cells.toList))=uss) (hf:Jj pl zc uss=some out):EL P N K o w (.agg out.toArray):=by
 intro a hK w' _
 have e1:=hK.parts hp
 unfold Dr at hz
 obtain⟨i,hi,hz2⟩:=Option.bind_eq_some_iff.1 hz
 obtain⟨z,hz3,hz4⟩:=Option.map_eq_some_iff.1 hz2
 have ep:(parts.map fun(p:Nat×Operand)=>(p.1,a.eval p.2)).toList=vs:=by rw [Array.toList_map];exact e1
 unfold CZ at hpl
 split at hpl
 ·rename_i fs hus
  have hr:=Rb hpl w'
  have hfill:=NW (place:=fun i=>pl[i]?) (pl:=pl) (fun i x h=>h) vs uss z.cells out hu (by rw [hz4];exact hf)
  simp only [execOp,ho,Instr.build,zeroValue,typeInfo,Sem.run_bind,Result.andThen_ok,Sem.run_pure,run_underlying hus]
  have hm:(fs.mapM (m:=Sem) fun f=>do pure (f.offset,←sizeOf f.type)).run P w'= .ok pl.toArray w':=by
   rw [show fs=fs.toList.toArray by simp,List.mapM_toArray]
   have hr':=hr
   simp at hr' ⊢
   simp [hr']
  simp [hi,hz3]
  simp at hm
  rw [hm]
  have ep2:(Array.map (fun x=>(x.fst,a.eval x.snd)) parts).toList=vs:=ep
  simp at ep2
  simp [ep2,hfill]
 ·rename_i n e hus
  obtain⟨j,hj,rfl⟩:=Option.map_eq_some_iff.1 hpl
  have hfill:=NW (place:=fun i=>some (i*j.size,j.size)) (pl:=(List.range n).map fun k=>(k*j.size,j.size)) (fun i x h=>by
   have hin:i<n:=by have:=(List.getElem?_eq_some_iff.1 h).1;simpa using this
   simpa [hin] using h) vs uss z.cells out hu (by rw [hz4];exact hf)
  have ep2:(Array.map (fun x=>(x.fst,a.eval x.snd)) parts).toList=vs:=ep
  simp at ep2
  simp [execOp,ho,Instr.build,zeroValue,typeInfo,run_underlying hus,hi,hz3,sizeOf,hj,ep2,hfill]
 ·cases hpl
theorem Gz{t len parts vs uss zc sz by' out}(ho:o.op= .buildSlice t len parts)(hu:P.underlying t=some (.slice e))(hi:DP P e=some (zc,sz,by'))(hp:Im K parts.toList=some vs)
 (huss:vs.map (fun p=>(p.1,p.2.cells.toList))=uss) (hf:Jj ((List.range len).map fun k=>(k*sz,sz)) (madeCells zc.toArray (len*sz)).toList uss=some out)
 (hsm:Nat.ble (len*sz) 16777216=true) (hsz:sz=c.n) (hpos:Nat.blt 0 c.n=true) (hl:len=xs.length) (hrep:∀i x,xs[i]? =some x->c.rep w S x (BJ out c.n i)) (hS:∀k,S k->k<w.heap.size) (hol:out.length=len*sz):
 LG P N K o w (fun u w'=>∃g,u= .slice (some ⟨g,0,none⟩) len len∧g=w.heap.size∧w'.heap.size=w.heap.size+1∧AR w w'∧AC c w' g S e xs u):=by
 intro a hK Kt Q hk
 have e1:=hK.parts hp
 unfold DP at hi
 obtain⟨i,hi1,hi2⟩:=Option.bind_eq_some_iff.1 hi
 obtain⟨z,hz1,hz2⟩:=Option.map_eq_some_iff.1 hi2
 simp only [Prod.mk.injEq]at hz2
 obtain⟨e3,e4,e5⟩:=hz2
 have hsm:=Nat.le_of_ble_eq_true hsm
 have ep:(parts.map fun(p:Nat×Operand)=>(p.1,a.eval p.2)).toList=vs:=by rw [Array.toList_map];exact e1
 have hzc:z.cells=zc.toArray:=by rw [←e3]
 have hfill:=NW (place:=fun i=>some (i*sz,sz)) (pl:=(List.range len).map fun k=>(k*sz,sz)) (fun i x h=>by
  have hin:i<len:=by have:=(List.getElem?_eq_some_iff.1 h).1;simpa using this
  simpa [hin] using h) vs uss (madeCells zc.toArray (len*sz)) out huss hf
 have hr:(execOp a.eval o).run P w= .ok (.value (.slice (some ⟨w.heap.size,0,none⟩) len len)) (w.alloc (.cells out.toArray e)):=by
  have ep2:(Array.map (fun x=>(x.fst,a.eval x.snd)) parts).toList=vs:=ep
  have hle:¬(16777216<len*sz):=by omega
  by_cases h0:len*sz=0
  ·have hm:madeCells zc.toArray (len*sz)= #[]:=by rw [h0];simp [madeCells]
   rw [hm]at hfill
   simp at ep2
   simp [execOp,ho,Instr.buildSlice,run_underlying hu,sizeOf,typeInfo,hi1,e4,h0,ep2,Array.range_zero']
   skip
   simp [hfill,newRow,newObj]
   try simp [Sem.run,Result.andThen]
  ·simp at ep2
   simp [execOp,ho,Instr.buildSlice,run_underlying hu,sizeOf,typeInfo,hi1,e4,h0,hle,ep2,zeroValue,hz1]
   have hm:(Array.map (fun x=>z.cells[x%z.cells.size]!) (Array.range (len*sz)))=madeCells zc.toArray (len*sz):=by rw [hzc];rfl
   skip
   simp [hm,hfill,newRow,newObj]
   try simp [Sem.run,Result.andThen]
 unfold Oper.wp
 rw [hr]
 refine hk _ _ ⟨w.heap.size,rfl,rfl,by simp,AR.alloc _ _,out,?_,fun q x hx=>c.mono (hrep q x hx) (fun _ h=>h) (fun k hk=>Below.heap_alloc w _ k (hS k hk))⟩
 have h1:=World.ownsRow_lit (e:=e) (size:=c.n) w out.toArray len (Nat.le_refl w.heap.size) (by
  have:len<=len*sz:=Nat.le_mul_of_pos_right _ (by have h:=hpos;simp [Nat.blt]at h;omega)
  simp only [maxLen];omega) (by simp [hol,hsz])
 rw [←hl]
 simpa using h1
end
end Go.Eng
namespace Go.Eng
open Go Go.RowKit
/-! ## Regions whose order is drawn, with operations that act -/
section
variable {P:Program} {N:Nat} {ops:Array Oper} {Q:Exit -> Act -> World -> Prop} {md:Region.Mode} {S S':World -> Prop} {n:Nat}
def DJ(P:Program)(md:Region.Mode)(ops:Array Oper)(n:Nat)(Q:Exit->Act->World->Prop)(S:World->Prop):Nat->Array Bool->Act->World->Prop
 |0,listed,a,w=>Region.ready md ops listed=[]∧Q .normal a w
 |f+1,listed,a,w=>(Region.ready md ops listed=[]->Q .normal a w)∧
  ∀i∈Region.ready md ops listed,wpOp P ops Q i (fun a' w'=>(i<n->S w')∧DJ P md ops n Q S f (listed.setIfInBounds i true) a' w') a w
theorem DJ.any:∀(f:Nat) (listed:Array Bool) (a:Act) (w:World),DJ P md ops n Q S f listed a w->wpAny P md ops Q f listed a w
 |0,_,_,_,h=>h
 |f+1,_,_,_,h=>⟨h.1,fun i hi=>wpOp_mono (fun a' w' h'=>DJ.any f _ a' w' h'.2) (h.2 i hi)⟩
theorem DJ.mono(hS:∀w,S' w->S w):∀(f:Nat) (listed:Array Bool) (a:Act) (w:World),DJ P md ops n Q S' f listed a w->DJ P md ops n Q S f listed a w
 |0,_,_,_,h=>h
 |f+1,_,_,_,h=>⟨h.1,fun i hi=>wpOp_mono (fun a' w' h'=>⟨fun hn=>hS _ (h'.1 hn),DJ.mono hS f _ a' w' h'.2⟩) (h.2 i hi)⟩
theorem DJ.first{i:Nat}{oi:Oper}{v:Value}(hi:ops[i]? =some oi)(hin:i<n)(hnn:n<=ops.size)(hsel:∀(j:Nat) (o:Oper) cs b,ops[j]? =some o->o.op≠ .select cs b)
 (htail:n=ops.size∨(Region.sinkB md ops n=true∧Region.chainB md ops n=true∧n<ops.size))
 (hQ:∀c a w,Q (.panic c) (a.put oi.dst v) w->Q (.panic c) a w):
 ∀(f:Nat) (listed:Array Bool) (a:Act) (w:World),HeadInv md ops n listed->
  (∀j oj,ops[j]? =some oj->j≠i->listed.getD j true=false->(∀e∈oj.after,Region.binds md e=true->e.on≠i)->oi.apart ops oj=true)->
  i∈Region.ready md ops listed->YieldsIf P ops S oi v a->S w->
  DJ P md ops n Q S f (listed.setIfInBounds i true) (a.put oi.dst v) w->DJ P md ops n Q S (f+1) listed a w:=by
 have headonly:∀listed,HeadInv md ops n listed->i∈Region.ready md ops listed->∀j∈Region.ready md ops listed,j<n:=by
  intro listed inv hr j hj
  have hjs:j<ops.size:=by
   obtain⟨_,oj,hoj,_⟩:=mem_ready.1 hj
   exact(Array.getElem?_eq_some_iff.1 hoj).1
  rcases htail with h|⟨h1,h2,h3⟩
  ·omega
  ·rcases Nat.lt_or_ge j n with h|h
   ·exact h
   ·exact absurd hj (tail_waits h1 h2 h3 inv _ i rfl hin (mem_ready.1 hr).1 j h)
 intro f
 induction f with
 |zero=>
  intro listed a w inv _ hr hy hS H
  refine⟨fun h=>(by rw [h]at hr;cases hr),fun j hj=>?_⟩
  by_cases hji:j=i
  ·subst hji;exact hy.wpOp hi hS ⟨fun _=>hS,H⟩
  ·have:=ready_mono hj hji
   rw [H.1]at this
   cases this
 |succ f ih=>
  intro listed a w inv hfree hr hy hS H
  refine⟨fun h=>(by rw [h]at hr;cases hr),fun j hj=>?_⟩
  have hjn:=headonly listed inv hr j hj
  by_cases hji:j=i
  ·subst hji;exact hy.wpOp hi hS ⟨fun _=>hS,H⟩
  ·have h1:=H.2 j (ready_mono hj hji)
   obtain⟨hjun,oj,hoj,hall⟩:=mem_ready.1 hj
   have hnot:∀e∈oj.after,Region.binds md e=true->e.on≠i:=fun e he hb heq=>by
    have h1:=hall e he hb
    rw [heq,getD_both (mem_ready.1 hr).1]at h1
    cases h1
   have h2:=wpOp_putIf hoj (hfree j oj hoj hji hjun hnot) (fun cs b=>hsel i oi cs b hi) (fun cs b=>hsel j oj cs b hoj) hQ hy h1
   have hfree':∀k ok,ops[k]? =some ok->k≠i->(listed.setIfInBounds j true).getD k true=false->
    (∀e∈ok.after,Region.binds md e=true->e.on≠i)->oi.apart ops ok=true:=fun k ok hk hki hun hno=>by
    refine hfree k ok hk hki ?_ hno
    by_cases hjk:j=k
    ·subst hjk;exact hjun
    ·rw [getD_set_ne true hjk]at hun;exact hun
   refine wpOp_mono (fun a' w' h3=>⟨fun _=>h3.2.1 hjn,ih (listed.setIfInBounds j true) a' w' (inv.set hj hjn) hfree' (ready_mono hr (Ne.symm hji)) h3.1 (h3.2.1 hjn) ?_⟩) h2
   rw [Array.setIfInBounds_comm _ _ hji]
   exact h3.2.2
theorem DJ.seq{Q':Exit->Act->World->Prop}:∀(l:List Oper) (k:Nat) (listed:Array Bool) (a:Act) (w:World),(∀j,l[j]? =ops[k+j]?)->n<=k->
 Region.seqB md ops l.length k listed=true->wpList P ops Q' l a w->DJ P md ops n Q' S l.length listed a w
 |[],k,listed,a,w,hl,hk,hB,h=>⟨by simpa [Region.seqB] using hB,h⟩
 |o::l,k,listed,a,w,hl,hk,hB,h=>by
  have h0:ops[k]? =some o:=by simpa using (hl 0).symm
  simp only [List.length_cons,Region.seqB,Bool.and_eq_true,decide_eq_true_eq]at hB
  refine⟨fun h1=>(by rw [hB.1]at h1;cases h1),fun i hi=>?_⟩
  rw [hB.1]at hi
  have hik:i=k:=by simpa using hi
  subst hik
  have hw:wpOp P ops Q' i (wpList P ops Q' l) a w:=by unfold wpOp;simp only [h0];exact h
  exact wpOp_mono (fun a' w' h'=>⟨fun h=>absurd h (by omega),DJ.seq l (i+1) _ a' w' (fun j=>by have:=hl (j+1);simpa [Nat.add_assoc,Nat.add_comm 1 j] using this) (by omega) hB.2 h'⟩) hw
def HL(P:Program)(N:Nat)(ops:Array Oper)(n:Nat)(Q:Exit->Act->World->Prop)(w0:World)(f:Nat)(listed:Array Bool)(K:KL)(w:World):Prop:=
 HeadInv .any ops n listed->AR w0 w->∀a,Kn N K a->DJ P .any ops n Q (fun w'=>AR w0 w') f listed a w
def noPan(Q:Exit->Act->World->Prop):Exit->Act->World->Prop
 | .panic _,_,_=>False
 |e,a,w=>Q e a w
def EU(ops:Array Oper)(n:Nat):Bool:=Region.noSelect ops&&Nat.ble n ops.size&&(Nat.beq n ops.size||(Region.sinkB .any ops n&&Region.chainB .any ops n&&Nat.blt n ops.size))
theorem EU.spec(h:EU ops n=true):Region.noSelect ops=true∧n<=ops.size∧(n=ops.size∨(Region.sinkB .any ops n=true∧Region.chainB .any ops n=true∧n<ops.size)):=by
 unfold EU at h
 simp only [Bool.and_eq_true,Bool.or_eq_true]at h
 refine⟨h.1.1,Nat.le_of_ble_eq_true h.1.2,?_⟩
 rcases h.2 with h|h
 ·exact .inl (Nat.eq_of_beq_eq_true h)
 ·refine .inr ⟨h.1.1,h.1.2,?_⟩
  have h2:=h.2;simp [Nat.blt]at h2;omega
variable {K:KL} {w w0:World} {f:Nat} {listed:Array Bool}
theorem HL.shrink(h:HL P N ops n Q w f listed K w):HL P N ops n Q w0 f listed K w:=by
 intro inv hx a hK
 exact DJ.mono (fun w2 h2=>AR.trans hx h2) _ _ _ _ (h inv (AR.refl w) a hK)
theorem HL.tail{l:List Oper}(hops:ops=l.toArray)(hseq:Region.seqB .any ops (l.drop n).length n listed=true)(hf:f=(l.drop n).length)(k:TL P N ops (noPan Q) (l.drop n) K w):HL P N ops n (noPan Q) w0 f listed K w:=by
 intro inv hx a hK
 rw [hf]
 exact DJ.seq (l.drop n) n listed a w (fun j=>by rw [hops,List.getElem?_drop];simp) (Nat.le_refl n) hseq (k a hK)
theorem WC.held{id:Nat}{l:List Oper}(n:Nat)(hm:P.follows .mixedOrders=true)
 (h:∀w',AR w w'->HL P N l.toArray n (noPan Q) w' l.length (Array.replicate l.length false) K w'):WC P N (.region id l.toArray true) Q K w:=by
 intro a hK
 have inv0:HeadInv .any l.toArray n (Array.replicate l.length false):=
  ⟨by simp,fun j oj _ hl=>(by rw [getD_replicate_false]at hl;cases hl),fun t _ ht=>getD_in (by simpa using ht) (getD_replicate_false _ _)⟩
 refine Code.wp_mono ?_ (wp_region_any hm (DJ.any _ _ _ _ (h w.drew (AR.drew w) (by simpa using inv0) (AR.refl _) a hK)))
 intro e a w hq
 cases e<;>first|exact hq|exact hq.elim
theorem TL.noPan{l:List Oper}(h:NX N Q .normal K w):TL P N ops (noPan Q) [] K w:=fun a hK=>h a hK
end
/-! ## More operations -/
section
variable {P:Program} {N:Nat} {α:Type} {c:Cy α} {w:World} {S:Nat -> Prop} {xs:List α} {v:Value} {o:Oper} {K:KL}
theorem Ah{x a}(ho:o.op= .nilCheck x)(hx:CL K x=some (.pointer (some a))):EL P N K o w (.pointer (some a)):=by
 intro a hK w' _
 simp [execOp,ho,hK.ev hx]
def Ky{α:Type}(xs:List α)(lo hi:Int):Option (List α):=if 0<=lo∧lo<=hi∧hi<=xs.length then some ((xs.take hi.toNat).drop lo.toNat)else none
theorem GA{k:IntKind}{i:Int}{y:Nat}{code:BoundsCode}{w:World}(h0:0<=i)(h1:i<=y):(Instr.sliceBound (.int k i) y code).run P w= .ok i.toNat w:=by
 simp [Instr.sliceBound,asIntOf,h0,h1]
theorem QA{e:TypeId}{a:Option Addr}{cap:Nat}{lo hi:Int}(h1:xs.length<=cap∧(a=none->cap=0))(h3:cap<=9223372036854775807)
 (h4:0<xs.length->∃b off,a=some ⟨b,off,none⟩∧S b∧∀i x,xs[i]? =some x->∃us,c.rep w S x us∧AO w b (off+i*c.n) us)
 (g0:0<=lo) (g1:lo<=hi) (g2:hi<=xs.length):
 AD c w S ((xs.take hi.toNat).drop lo.toNat) (.slice (if cap=lo.toNat then a else a.map (·.add (lo.toNat*c.n))) (hi.toNat-lo.toNat) (cap-lo.toNat)):=by
 have hl:((xs.take hi.toNat).drop lo.toNat).length=hi.toNat-lo.toNat:=by simp;omega
 refine⟨_,_,by rw [hl],⟨by rw [hl];omega,fun h=>?_⟩,by omega,fun hpos=>?_⟩
 ·split at h
  ·omega
  ·have:a=none:=by cases a<;>simp_all
   have:=h1.2 this;omega
 ·rw [hl]at hpos
  obtain⟨b,off,rfl,hb,h5⟩:=h4 (by omega)
  rw [if_neg (by omega)]
  refine⟨b,off+lo.toNat*c.n,by simp [Ct],hb,fun i x hx=>?_⟩
  rw [List.getElem?_drop,List.getElem?_take]at hx
  split at hx
  ·obtain⟨us,h6,h7⟩:=h5 _ _ hx
   refine⟨us,h6,?_⟩
   have e1:off+lo.toNat*c.n+i*c.n=off+(lo.toNat+i)*c.n:=by rw [Nat.add_mul];omega
   rw [e1];exact h7
  ·cases hx
theorem NG{t x hi e k2 m2 zs}(ho:o.op= .slice t x none (some hi) none)(hu:P.underlying t=some (.slice e))(hc:BP P e=some c.n)(hx:CL K x=some v)(h2:CL K hi=some (.int k2 m2))
 (hs:AD c w S xs v) (hz:Ky xs 0 m2=some zs):YE P N K o w (fun u=>AD c w S zs u):=by
 obtain⟨a,cap,rfl,g1,g3,g4⟩:=hs
 unfold Ky at hz
 split at hz
 ·rename_i hb
  injection hz with hz;subst hz
  obtain⟨i,hi2,hsz⟩:=Option.map_eq_some_iff.1 hc
  refine⟨_,fun a' hK w' he=>?_,QA (e:=e) g1 g3 g4 hb.1 hb.2.1 hb.2.2⟩
  have e1:(Instr.sliceBound (.int k2 m2) cap .sliceAcap).run P w'= .ok m2.toNat w':=GA (by omega) (by omega)
  simp [execOp,ho,hK.ev hx,hK.ev h2,Instr.sliceAt,Instr.slice,run_underlying hu,Instr.sliceBounds,e1,sizeOf,typeInfo,hi2,hsz]
 ·cases hz
theorem Oo{t x lo e k1 m1 zs}(ho:o.op= .slice t x (some lo) none none)(hu:P.underlying t=some (.slice e))(hc:BP P e=some c.n)(hx:CL K x=some v)(h1:CL K lo=some (.int k1 m1))
 (hs:AD c w S xs v) (hz:Ky xs m1 xs.length=some zs):YE P N K o w (fun u=>AD c w S zs u):=by
 obtain⟨a,cap,rfl,g1,g3,g4⟩:=hs
 unfold Ky at hz
 split at hz
 ·rename_i hb
  injection hz with hz;subst hz
  obtain⟨i,hi2,hsz⟩:=Option.map_eq_some_iff.1 hc
  refine⟨_,fun a' hK w' he=>?_,QA (e:=e) g1 g3 g4 hb.1 hb.2.1 hb.2.2⟩
  have e2:(Instr.sliceBound (.int k1 m1) xs.length .sliceB).run P w'= .ok m1.toNat w':=GA (by omega) (by omega)
  simp [execOp,ho,hK.ev hx,hK.ev h1,Instr.sliceAt,Instr.slice,run_underlying hu,Instr.sliceBounds,e2,sizeOf,typeInfo,hi2,hsz]
 ·cases hz
def Pu(s:ByteArray)(i:Int):Option Int:=if 0<=i then(s[i.toNat]?).map fun b=>(b.toNat:Int)else none
theorem Fj{t x i s k m b}(ho:o.op= .index t x i)(hu:P.underlying t=some .string)(hx:CL K x=some (.string s))(hi:CL K i=some (.int k m))(hb:Pu s m=some b):EL P N K o w (.int .u8 b):=by
 intro a hK w' _
 unfold Pu at hb
 split at hb
 ·rename_i h0
  obtain⟨q,h1,rfl⟩:=Option.map_eq_some_iff.1 hb
  simp [execOp,ho,hK.ev hx,hK.ev hi,Instr.index,asIntOf,run_underlying hu,h0,h1]
 ·cases hb
end
/-! ## Slices of the call's own whose elements lead into memory -/
abbrev SX(B hi:Nat)(v:Value):Nat->Prop:=fun k=>B<=k∧k<hi∧v.ownBlock≠some k
section
variable {α:Type} {c:Cy α} {w w':World} {B hi:Nat} {e:TypeId} {xs zs:List α} {v v':Value}
theorem AC.extN(h:AC c w B (SX B hi v) e xs v)(he:AR w w')(hle:hi<=w.heap.size):AC c w' B (SX B hi v) e xs v:=
 h.keep (fun g hg=>he.block g (h.blk g hg).2) (fun _ h=>h) (fun k h=>he.block k (by have:=h.2.1;omega))
theorem AC.updN{b:Nat}(h:AC c w B (SX B hi v) e xs v)(hu:Gk b w w')(hne:∀g,v.ownBlock=some g->g≠b)(hb:b<B∨hi<=b:=by omega):AC c w' B (SX B hi v) e xs v:=
 h.keep (fun g hg=>hu.block g (hne g hg)) (fun _ h=>h) (fun k h=>hu.block k (by have:=h.1;have:=h.2.1;omega))
theorem AC.wideN{hi':Nat}(h:AC c w B (SX B hi v) e xs v)(hle:hi<=hi':=by omega):AC c w B (SX B hi' v) e xs v:=
 h.keep (fun _ _=>rfl) (fun k h=>⟨h.1,by have:=h.2.1;omega,h.2.2⟩) (fun _ _=>rfl)
theorem AC.slN{lo hi':Nat}(h:AC c w B (SX B hi v) e xs v)(h1:lo<=B:=by omega)(h2:w.heap.size<=hi':=by omega)(h3:hi<=hi':=by omega):AD c w (Iv lo hi') xs v:=
 h.sl (fun k h=>⟨by have:=h.1;omega,by have:=h.2.1;omega⟩) (fun k h4 h5=>⟨by omega,by omega⟩)
theorem AQ.below{lo:Nat}(h:AQ w w' v v')(hb:∀g,v.ownBlock=some g->lo<=g):Below lo w w'∨w.heap.size<lo:=by
 by_cases hl:lo<=w.heap.size
 ·exact .inl ⟨h.1.os,h.1.tape,h.1.output,h.1.size,fun k hk=>h.1.block k (by omega) (fun e=>by have:=hb k e.symm;omega)⟩
 ·exact .inr (by omega)
theorem AQ.low{lo:Nat}(h:AQ w w' v v')(hb:∀g,v.ownBlock=some g->lo<=g)(hl:lo<=w.heap.size):Below lo w w':=by
 rcases h.below hb with h|h
 ·exact h
 ·omega
theorem AQ.box{b:Nat}{us:List Value}{t:TypeId}(h:AQ w w' v v')(hb:Ae w b us t)(hne:∀g,v.ownBlock=some g->g≠b):Ae w' b us t:=by
 unfold Ae;rw [h.1.block b hb.lt (fun e=>hne b e.symm rfl)];exact hb
theorem AQ.slr{lo hi:Nat}(h:AQ w w' v v'){ys:List α}{u:Value}(hs:AD c w (Iv lo hi) ys u)(hne:∀g,v.ownBlock=some g->g<lo∨hi<=g)(hle:hi<=w.heap.size:=by omega):AD c w' (Iv lo hi) ys u:=
 hs.mono (fun _ h=>h) (fun k hk=>h.1.block k (by have:=hk.2;omega) (fun e=>by have:=hne k e.symm;have:=hk.1;have:=hk.2;omega))
theorem AQ.bd{S:Nat->Prop}(h:AQ w w' v v')(ho:AC c w' B S e zs v'){lo hi:Nat}(hb:∀g,v.ownBlock=some g->lo<=g∧g<hi)(hl:lo<=w.heap.size)(hh:hi<=w'.heap.size):∀g,v'.ownBlock=some g->lo<=g∧g<w'.heap.size:=fun g hg=>by
 have h1:=(ho.blk g hg).2
 rcases h.2 g hg with h2|h2
 ·exact⟨(hb g h2).1,h1⟩
 ·exact⟨by omega,h1⟩
end
section
variable {P:Program} {N:Nat} {α:Type} {c:Cy α} {w:World} {B:Nat} {e:TypeId} {xs ys zs:List α} {v:Value} {o:Oper} {K:KL}
theorem Ac[DU c]{t x y u zc sz by'}{S2:Nat->Prop}(ho:o.op= .call { callee:=.builtin .append,args:=#[x,y],argTypes:=#[t,t] })(hu:P.underlying t=some (.slice e))(hi:DP P e=some (zc,sz,by'))(hsz:sz=c.n)(hzc:zc.length=sz)
 (hpos:Nat.blt 0 c.n=true) (hx:CL K x=some v) (hy:CL K y=some u) (hs:AC c w B (Iv 0 0) e xs v) (hb:B<=w.heap.size) (hr:AD c w S2 ys u) (ha:CA xs ys by'=some zs):
 LG P N K o w (fun v' w'=>AC c w' B (Iv 0 0) e zs v'∧AQ w w' v v'):=
 Ls (S':=Iv 0 0) ho hu hi hsz hzc hpos hx hy hs hb hr ha (fun _ h=>h) (fun _ _ h=>DU.any h) (fun k h=>absurd h.2 (Nat.not_lt_zero k))
theorem Jp{t x y u zc sz by' hi lo2 hi2}(ho:o.op= .call { callee:=.builtin .append,args:=#[x,y],argTypes:=#[t,t] })(hu:P.underlying t=some (.slice e))(hi1:DP P e=some (zc,sz,by'))(hsz:sz=c.n)(hzc:zc.length=sz)
 (hpos:Nat.blt 0 c.n=true) (hx:CL K x=some v) (hy:CL K y=some u) (hs:AC c w B (SX B hi v) e xs v) (hb:B<=w.heap.size) (hle:hi<=w.heap.size) (hr:AD c w (Iv lo2 hi2) ys u)
 (h1:B<=lo2) (h2:hi2<=w.heap.size) (hne:∀g,v.ownBlock=some g->g<lo2∨hi2<=g) (ha:CA xs ys by'=some zs):
 LG P N K o w (fun v' w'=>AC c w' B (SX B w.heap.size v') e zs v'∧AQ w w' v v'):=by
 intro a hK Kt Q hk
 refine Ls (S':=SX B w.heap.size v) ho hu hi1 hsz hzc hpos hx hy hs hb hr ha (fun k h=>⟨h.1,by have:=h.2.1;omega,h.2.2⟩)
  (fun _ _ h=>c.mono h (fun k hk=>⟨by have:=hk.1;omega,by have:=hk.2;omega,fun e=>by have:=hne k e;have:=hk.1;have:=hk.2;omega⟩) (fun _ _=>rfl)) (fun k h=>⟨h.2.1,h.2.2⟩) a hK Kt Q ?_
 rintro v' w' ⟨h3,h4⟩
 refine hk v' w' ⟨h3.keep (fun _ _=>rfl) (fun k h=>⟨h.1,h.2.1,fun e=>?_⟩) (fun _ _=>rfl),h4⟩
 rcases h4.2 k e with h5|h5
 ·exact h.2.2 h5
 ·have:=h.2.1;omega
end
end Go.Eng
namespace Go.Eng
open Go Go.RowKit
section
variable {α β:Type} {c:Cy α} {d:Cy β} {w w':World} {B hi:Nat} {e e2:TypeId} {xs zs:List α} {ys:List β} {v v' u:Value}
theorem AQ.ownF[DU d](h:AQ w w' v v')(ho:AC d w B (Iv 0 0) e2 ys u)(hne:∀g q,v.ownBlock=some g->u.ownBlock=some q->g≠q):AC d w' B (Iv 0 0) e2 ys u:=
 ho.keep (fun q hq=>h.1.block q (ho.blk q hq).2 (fun e=>hne q q e.symm hq rfl)) (fun _ h=>h) (fun k h=>absurd h.2 (Nat.not_lt_zero k))
theorem AQ.ownN(h:AQ w w' v v')(ho:AC d w B (SX B hi u) e2 ys u)(hne:∀g q,v.ownBlock=some g->u.ownBlock=some q->g≠q)(hle:hi<=w.heap.size)(hs:∀g,v.ownBlock=some g->g<B∨hi<=g):AC d w' B (SX B hi u) e2 ys u:=
 ho.keep (fun q hq=>h.1.block q (ho.blk q hq).2 (fun e=>hne q q e.symm hq rfl)) (fun _ h=>h) (fun k hk=>h.1.block k (by have:=hk.2.1;omega) (fun e=>by have:=hs k e.symm;have:=hk.1;have:=hk.2.1;omega))
theorem AQ.sepP{p:Nat->Prop}(h:AQ w w' v v')(h1:∀g,v.ownBlock=some g->p g)(h2:∀g,w.heap.size<=g->p g):∀g,v'.ownBlock=some g->p g:=fun g hg=>(h.2 g hg).elim (h1 g) (h2 g)
theorem Ag{g k k2:Nat}{u:Value}(h:u= .slice (some ⟨g,0,none⟩) k k2):∀q,u.ownBlock=some q->g<=q∧q<g+1:=by
 subst h;intro q hq
 have h2:g=q:=Option.some.inj hq
 omega
theorem Gg{lo hi:Nat}:∀q,(Value.slice none 0 0).ownBlock=some q->lo<=q∧q<hi:=fun q h=>by cases h
theorem AC.litN{g k k2 lo hi2:Nat}(h:AC c w g (Iv lo hi2) e xs u)(hu:u= .slice (some ⟨g,0,none⟩) k k2)(h1:lo<=g)(h2:hi2<=g):AC c w lo (SX lo g u) e xs u:=
 (h.base h1).keep (fun _ _=>rfl) (fun q hq=>⟨hq.1,by have:=hq.2;omega,fun e=>by
  subst hu
  have h3:g=q:=Option.some.inj e
  have:=hq.2;omega⟩) (fun _ _=>rfl)
end
section
variable {P:Program} {N:Nat} {α:Type} {c:Cy α} {w:World} {B:Nat} {S:Nat -> Prop} {e:TypeId} {xs:List α} {v:Value} {o:Oper} {K:KL}
theorem CK{t x y b off u cur e}(ho:o.op= .store t x y)(hx:CL K x=some (.pointer (some ⟨b,off,none⟩)))(hy:CL K y=some u)(hb:Ae w b cur e)(hn:BP P t=some 1)(hcl:u.cells= #[u])(h1:u.oneCell'=true)
 (hfit:Nat.ble (off+1) cur.length=true):LG P N K o w (fun _ w'=>Gk b w w'∧Ae w' b (cur.take off++[u]++cur.drop (off+1)) e):=by
 have:=PK (N:=N) ho hx hy hb (by rw [hcl];exact hn) (by rw [hcl];simp [h1]) (by rw [hcl];exact hfit)
 rw [hcl]at this;exact this
theorem Jq{t x y u g m us us' y0 y'}(j off:Nat)(ho:o.op= .store t x y)(hx:CL K x=some (.pointer (some ⟨g,off,none⟩)))(hy:CL K y=some u)(hs:AC c w B S e xs v)
 (hg:v.ownBlock=some g) (hm:AL xs m=some y0) (hoff:off=0+m.toNat*c.n+j) (hn:BP P t=some 1) (hcu:u.cells= #[u]) (h1:u.oneCell'=true) (hrep:c.rep w S y0 us)
 (hcl:AO w g (0+m.toNat*c.n) us) (hus:us'=HQ us j [u]) (hfit:Nat.ble (j+1) us.length=true) (hrep':c.rep w S y' us') (hS:∀k,S k->k≠g):
 LG P N K o w (fun _ w'=>Gk g w w'∧AC c w' B S e (xs.set m.toNat y') v):=
 Av j off ho hx hy hs hg hm hoff (by rw [hcu];exact hn) (by rw [hcu];simp [h1]) hrep hcl (by rw [hcu];exact hus) (by rw [hcu];exact hfit) hrep' hS
theorem AC.baseN{B' hi:Nat}(h:AC c w B (SX B hi v) e xs v)(hB:B'<=B:=by omega):AC c w B' (SX B' hi v) e xs v:=
 (h.base hB).keep (fun _ _=>rfl) (fun k hk=>⟨by have:=hk.1;omega,hk.2⟩) (fun _ _=>rfl)
end
theorem AB{x:Value}{xs:List Value}(h:x.oneCell'=true)(h2:xs.all Value.oneCell'=true):(x::xs).all Value.oneCell'=true:=by simp [List.all_cons,h,h2]
theorem AX:([]:List Value).all Value.oneCell'=true:=rfl
def Gq:Nat->List (List Value)->List (Nat×List Value)
 |_,[]=>[]
 |k,us::uss=>(k,us)::Gq (k+1) uss
theorem Nv{n len:Nat}:∀(uss:List (List Value)) (k:Nat) (pre post:List Value),pre.length=k*n->post.length=uss.length*n->(∀us∈uss,us.length=n)->len=k+uss.length->
 Jj ((List.range len).map fun k=>(k*n,n)) (pre++post) (Gq k uss)=some (pre++Bk uss)
 |[],k,pre,post,hp,hq,ha,hl=>by
  have:post=[]:=List.eq_nil_of_length_eq_zero (by simpa using hq)
  subst this;simp [Gq,Jj,Bk]
 |us::uss,k,pre,post,hp,hq,ha,hl=>by
  have hus:us.length=n:=ha us (List.mem_cons_self ..)
  have hk:((List.range len).map fun k=>(k*n,n))[k]? =some (k*n,n):=by
   have:k<len:=by rw [hl,List.length_cons];omega
   simp [this]
  have hq':post.length=uss.length*n+n:=by rw [hq,List.length_cons,Nat.add_mul];omega
  have e:List.take (k*n) (pre++post)++us++List.drop (k*n+us.length) (pre++post)=(pre++us)++post.drop n:=by
   rw [←hp,List.take_left,List.drop_append,hus,List.drop_eq_nil_of_le (by omega)]
   simp
  have:=Nv (len:=len) uss (k+1) (pre++us) (post.drop n) (by rw [List.length_append,hp,hus,Nat.add_mul];omega) (by rw [List.length_drop,hq'];omega) (fun x hx=>ha x (List.mem_cons_of_mem _ hx)) (by rw [hl,List.length_cons];omega)
  have hb:(Nat.beq us.length n&&Nat.ble (k*n+us.length) (pre++post).length)=true:=by
   rw [Bool.and_eq_true]
   exact⟨by rw [hus];exact Nat.beq_refl n,Nat.ble_eq_true_of_le (by rw [List.length_append,hp,hq',hus];omega)⟩
  rw [Gq,Jj]
  simp only [hk]
  rw [hb,e,if_pos rfl,this]
  simp [Bk]
theorem Mh{n len:Nat}{zc:Array Value}{uss:List (Nat×List Value)}(uls:List (List Value))(h1:uss=Gq 0 uls)(h2:uls.all (fun us=>Nat.beq us.length n)=true)(h3:uls.length=len):
 Jj ((List.range len).map fun k=>(k*n,n)) (madeCells zc (len*n)).toList uss=some (Bk uls):=by
 subst h1
 have:=Nv (n:=n) (len:=len) uls 0 [] (madeCells zc (len*n)).toList (by simp) (by rw [Array.length_toList,size_madeCells,h3]) (fun us hus=>Nat.eq_of_beq_eq_true (List.all_eq_true.1 h2 us hus)) (by omega)
 simpa using this
section
variable {P:Program} {N:Nat} {ops:Array Oper} {Q:Exit -> Act -> World -> Prop} {n:Nat} {K:KL} {w w0:World} {f:Nat} {listed:Array Bool}
def HB(P:Program)(N:Nat)(ops:Array Oper)(n:Nat)(Q:Exit->Act->World->Prop)(w0:World)(f:Nat)(listed:Array Bool)(K:KL)(w:World)(j:Nat):Prop:=
 HeadInv .any ops n listed->AR w0 w->∀a,Kn N K a->wpOp P ops Q j (fun a' w'=>(j<n->AR w0 w')∧DJ P .any ops n Q (fun w'=>AR w0 w') f (listed.setIfInBounds j true) a' w') a w
theorem HL.many{js:List Nat}(hr:Region.ready .any ops listed=js)(hne:js.isEmpty=false)(h:∀j∈js,HB P N ops n Q w0 f listed K w j):HL P N ops n Q w0 (f+1) listed K w:=by
 intro inv hx a hK
 refine⟨fun h0=>(by rw [hr]at h0;subst h0;cases hne),fun j hj=>?_⟩
 rw [hr]at hj
 exact h j hj inv hx a hK
theorem Bu{p:Nat->Prop}{i j:Nat}(h1:p i)(h2:p j):∀k∈[i,j],p k:=by
 intro k hk
 rcases List.mem_cons.1 hk with rfl|hk
 ·exact h1
 ·obtain rfl:=List.mem_singleton.1 hk;exact h2
theorem IJ{p:Nat->Prop}{i j l:Nat}(h1:p i)(h2:p j)(h3:p l):∀k∈[i,j,l],p k:=by
 intro k hk
 rcases List.mem_cons.1 hk with rfl|hk
 ·exact h1
 ·exact Bu h2 h3 k hk
theorem WC.join{c:Code}(R:Act->World->Prop)(h1:WC P N c (fun e a w=>e= .normal∧R a w) K w)(h2:∀a w',R a w'->Q .normal a w'):WC P N c Q K w:=by
 intro a hK
 refine Code.wp_mono ?_ (h1 a hK)
 rintro e a w ⟨rfl,h⟩
 exact h2 a w h
end
theorem AC.slb{α:Type}{c:Cy α}{w:World}{B lo hi:Nat}{S:Nat->Prop}{e:TypeId}{xs:List α}{v:Value}[DU c](h:AC c w B S e xs v)(hb:∀g,v.ownBlock=some g->lo<=g∧g<hi):AD c w (Iv lo hi) xs v:=by
 obtain⟨cs,h0,h3⟩:=h
 have h1:=h0
 obtain⟨hl,⟨rfl,hn⟩|⟨g,cap,cur,rfl,_,hh,h5,h6,h7,h8⟩⟩:=h1
 ·have:xs=[]:=List.eq_nil_of_length_eq_zero hn
  subst this;exact AD.nil _ _ _
 ·refine⟨some ⟨g,0,none⟩,cap,rfl,⟨h5,fun h=>by cases h⟩,by simpa [maxLen] using h6,fun hpos=>⟨g,0,rfl,hb g rfl,fun i x hx=>⟨_,DU.any (h3 i x hx),fun j u hu=>?_⟩⟩⟩
  have hjn:j<c.n:=by
   have:=(List.getElem?_eq_some_iff.1 hu).1
   simp [BJ]at this;omega
  rw [Bs hjn]at hu
  have:=h0.cells (g:=g) rfl _ _ hu
  rw [Ct]at this
  rw [show 0+i*c.n+j=0+(i*c.n+j) by omega];exact⟨this,by simp [World.frozen?,hh]⟩
def NR{α:Type}(c:Cy α)(w:World)(S:Nat->Prop):List α->List (List Value)->Prop
 |[],[]=>True
 |x::xs,us::uss=>c.rep w S x us∧NR c w S xs uss
 |_,_=>False
theorem NR.get{α:Type}{c:Cy α}{w:World}{S:Nat->Prop}:∀{xs:List α} {uss:List (List Value)},NR c w S xs uss->(∀us∈uss,us.length=c.n)∧xs.length=uss.length∧∀(i:Nat) (x:α),xs[i]? =some x->∃us:List Value,uss[i]? =some us∧c.rep w S x us
 |[],[],_=>⟨by simp,rfl,fun i x h=>by simp at h⟩
 |x::xs,us::uss,⟨h1,h2⟩=>by
  obtain⟨a,b,k⟩:=NR.get h2
  refine⟨fun q hq=>?_,by simp [b],fun i y hy=>?_⟩
  ·rcases List.mem_cons.1 hq with rfl|hq
   ·exact c.len h1
   ·exact a q hq
  ·cases i with
   |zero=>simp at hy;subst hy;exact⟨us,rfl,h1⟩
   |succ i=>simpa using k i y (by simpa using hy)
theorem NR.elem{α:Type}{c:Cy α}{w:World}{S:Nat->Prop}{xs:List α}{uss:List (List Value)}(h:NR c w S xs uss):∀i x,xs[i]? =some x->c.rep w S x (BJ (Bk uss) c.n i):=by
 intro i x hx
 obtain⟨a,b,k⟩:=NR.get h
 obtain⟨us,h1,h2⟩:=k i x hx
 rw [LO a h1];exact h2
theorem Ph{α:Type}{c:Cy α}{w:World}{S:Nat->Prop}{xs:List α}{uss:List (List Value)}{out:List Value}(h:NR c w S xs uss)(ho:out=Bk uss):∀i x,xs[i]? =some x->c.rep w S x (BJ out c.n i):=by
 subst ho;exact h.elem
end Go.Eng
namespace Go.Eng
open Go Go.RowKit Go.ChangeShapes Go.WideShapes Go.ChangeAt
/-! ## Arguments, as they are read -/
def Rd{α:Type}(P:Program)(t:TypeId)(c:Cy α)(R:α->Prop):Prop:=
 ∀(H:Type) (enc:TypeId×Value->H) (w:World) (base:Nat) (spare:Nat->Bool) (held:Bool) (fuel:Nat) (cs:List Value) (x:DataW H×List MemPlace),
  DataW.trod enc P w base spare held fuel t cs=some x->w.noneFrozen x.2->∃y,c.rep w (Iv 0 w.heap.size) y cs∧R y
section
variable {P:Program} {t e:TypeId} {α β:Type} {c:Cy α} {d:Cy β} {R:α -> Prop} {R':β -> Prop}
theorem Rd.int{k:IntKind}(hu:P.underlying t=some (.int k)):Rd P t (AJ k) (fun i=>k.min<=i∧i<=k.max):=fun H enc w b sp hd f cs x hx _=>by
 obtain⟨n,rfl,rfl,hw⟩:=DataW.trod_int hu hx
 simp only [Lit.wf,Bool.and_eq_true,decide_eq_true_eq]at hw
 exact⟨n,rfl,hw⟩
theorem SK{p:Nat->α->Prop}:∀(n:Nat),(∀i,i<n->∃y,p i y)->∃ys:List α,ys.length=n∧∀i y,ys[i]? =some y->p i y
 |0,_=>⟨[],rfl,fun i y h=>by simp at h⟩
 |n+1,h=>by
  obtain⟨ys,hl,hy⟩:=SK n (fun i hi=>h i (by omega))
  obtain⟨y,hn⟩:=h n (by omega)
  refine⟨ys++[y],by simp [hl],fun i z hz=>?_⟩
  by_cases hi:i<n
  ·rw [List.getElem?_append_left (by omega)]at hz;exact hy i z hz
  ·rw [List.getElem?_append_right (by omega),hl]at hz
   by_cases h0:i-n=0
   ·rw [h0]at hz
    simp at hz
    obtain rfl:i=n:=by omega
    subst hz;exact hn
   ·have:=(List.getElem?_eq_some_iff.1 hz).1
    simp at this;omega
theorem Rd.slice(hu:P.underlying t=some (.slice e))(hc:P.cellsOf e=c.n)(hp:Nat.blt 0 c.n=true)(h:Rd P e c R):Rd P t (FT c) (fun xs=>xs.length<=9223372036854775807∧∀x∈xs,R x):=fun H enc w b sp hd f cs x hx hz=>by
 have hp:0<c.n:=by have h:=hp;simp [Nat.blt]at h;omega
 rcases Go.Deep.open_slice hu hx with ⟨rfl,rfl⟩|⟨a,len,cap,m,n,D,Pl,rfl,hb,hl,hm,hmm,rfl,hel⟩
 ·exact⟨[],⟨_,rfl,AD.nil _ _ _⟩,by simp,by simp⟩
 have hle:len<=m:=by rw [hmm];split<;>omega
 obtain⟨ys,hyl,hy⟩:=SK (α:=α) (p:=fun i y=>∃cs',w.cells? b (a.add (i*P.cellsOf e)) (P.cellsOf e)=some cs'∧c.rep w (Iv 0 w.heap.size) y cs'∧R y) len (fun i hi=>by
  obtain⟨cs',h1,h2⟩:=hel i (by omega)
  obtain⟨y,h3,h4⟩:=h H enc w b sp hd n cs' _ h2 (fun b' o' hm=>hz b' o' (List.mem_append_right _ (List.mem_flatMap.2 ⟨i,List.mem_range.2 (by omega),hm⟩)))
  exact⟨y,cs',h1,h3,h4⟩)
 refine⟨ys,⟨_,rfl,some a,cap,by rw [hyl],⟨by omega,fun h=>by cases h⟩,by unfold maxLen at hm;omega,fun hpos=>?_⟩,by unfold maxLen at hm;omega,fun x hx=>?_⟩
 ·rw [hc]at hy
  have h0:∃cs',w.cells? b (a.add (0*c.n)) c.n=some cs':=by
   obtain⟨y,hy0⟩:∃y,ys[0]? =some y:=⟨_,List.getElem?_eq_getElem hpos⟩
   obtain⟨cs',h1,_⟩:=hy 0 y hy0
   exact⟨cs',h1⟩
  obtain⟨cs',h1⟩:=h0
  obtain⟨_,h2,h3⟩:=World.cells?_some h1
  have h4:=h3 0 hp
  have e0:(a.add (0*c.n)).add 0=a:=by simp [Addr.add]
  rw [e0,List.getElem?_eq_getElem (by omega)]at h4
  obtain⟨blk,off,spot⟩:=a
  have hblk:blk<w.heap.size∧spot=none:=by
   unfold World.cell? at h4
   split at h4
   ·rename_i h5
    refine⟨(Array.getElem?_eq_some_iff.1 h5).1,?_⟩
    cases spot with
    |none=>rfl
    |some s=>simp at h4
   ·cases h4
  obtain⟨hblk,rfl⟩:=hblk
  refine⟨blk,off,rfl,⟨Nat.zero_le _,hblk⟩,fun i x hx=>?_⟩
  obtain⟨cs',h1,h2,_⟩:=hy i x hx
  refine⟨cs',h2,fun j u hu=>?_⟩
  obtain⟨_,h3,h4⟩:=World.cells?_some h1
  have hj:=(List.getElem?_eq_some_iff.1 hu).1
  have:=h4 j (by omega)
  rw [Ct,Ct]at this
  refine⟨by rw [this,hu],hz _ _ (List.mem_append_left _ ?_)⟩
  unfold MemPlace.row
  refine List.mem_map.2 ⟨i*c.n+j,List.mem_range.2 ?_,by simp [Nat.add_assoc]⟩
  have hi2:i<m:=by have:=(List.getElem?_eq_some_iff.1 hx).1;omega
  have:(i+1)*c.n<=m*c.n:=Nat.mul_le_mul_right _ hi2
  rw [Nat.add_mul]at this
  rw [hc];omega
 ·obtain⟨i,hi⟩:=List.getElem?_of_mem hx
  obtain⟨_,_,_,h3⟩:=hy i x hi
  exact h3
def rX{α:Type}(P:Program)(fs:List Field)(off:Nat)(c:Cy α)(R:α->Prop):Prop:=
 ∀(H:Type) (enc:TypeId×Value->H) (w:World) (base:Nat) (spare:Nat->Bool) (held:Bool) (fuel:Nat) (cs:List Value),
  (∀f∈fs,∃x,DataW.trod enc P w base spare held fuel f.type ((cs.drop f.offset).take (P.cellsOf f.type))=some x∧w.noneFrozen x.2)->∃y,c.rep w (Iv 0 w.heap.size) y ((cs.drop off).take c.n)∧R y
theorem rX.one{f:Field}{off:Nat}(h:Rd P f.type c R)(ho:f.offset=off)(hc:P.cellsOf f.type=c.n):rX P [f] off c R:=fun H enc w b sp hd fu cs hx=>by
 obtain⟨x,hx,hz⟩:=hx f (List.mem_singleton.2 rfl)
 obtain⟨y,h1,h2⟩:=h H enc w b sp hd fu _ x hx hz
 rw [ho,hc]at h1
 exact⟨y,h1,h2⟩
end
/-! ## A statement whose answer is true -/
section
variable {H:Type} {enc:TypeId × Value -> H} {P:Program}
theorem LP(hl:laidOutB P=true){W W':World}(hb:Below W.heap.size W W'):∀{ts:List TypeId} {vs:List Value} {ds:List (DataW H)} {ps:List MemPlace},(∀t∈ts,P.readableRec t=true∧t<P.types.size)->
 DataW.TrodAll enc P W 0 (fun _=>true) true ts vs ds ps->(∀x∈ps,x.block<W.heap.size)->DataW.TrodAll enc P W' 0 (fun b=>decide (b<W.heap.size)) true ts vs ds ps
 |[],[],[],ps,_,h,_=>h
 |t::ts,v::vs,d::ds,ps,hr,h,hlt=>by
  obtain⟨p,q,h1,h2,rfl⟩:=h
  obtain⟨h3,h4⟩:=hr t (List.mem_cons_self ..)
  exact⟨p,q,Below.trod hl h3 h4 h1 hb (fun x hx=>hlt x (List.mem_append_left _ hx)),LP hl hb (fun t ht=>hr t (List.mem_cons_of_mem _ ht)) h2 (fun x hx=>hlt x (List.mem_append_right _ hx)),rfl⟩
theorem NK{w:World}{base:Nat}{sp:Nat->Bool}{hd:Bool}:∀{ts:List TypeId} {vs:List Value} {ds:List (DataW H)} {ps:List MemPlace},DataW.TrodAll enc P w base sp hd ts vs ds ps->ds.length=ts.length
 |[],[],[],_,_=>rfl
 |t::ts,v::vs,d::ds,ps,⟨p,q,_,h,_⟩=>by simp [NK h]
end
end Go.Eng
namespace Go.Eng
open Go Go.RowKit
/-! ## Plain laws on what the walks compute -/
theorem Af{x:Int}(h1:-9223372036854775808<=x)(h2:x<=9223372036854775807):IntKind.wrap IntKind.i64 x=x:=by
 simp [IntKind.wrap,IntKind.bits,IntKind.signed]
 split<;>omega
theorem HP{α:Type}(xs:List α)(i:Nat):AL xs (i:Int)=xs[i]?:=by simp [AL]
theorem El{α:Type}{xs:List α}{i:Int}(h0:0<=i)(h1:i<xs.length):∃x,AL xs i=some x∧x∈xs:=by
 obtain⟨n,rfl⟩:=Int.eq_ofNat_of_zero_le h0
 have hn:n<xs.length:=by omega
 exact⟨xs[n],by rw [HP,List.getElem?_eq_getElem hn],List.getElem_mem hn⟩
theorem Fi{n b:Nat}(h:n<=1048576)(hb:b<=268435456):Oe (n:Int) b=some n:=by
 unfold Oe
 have h2:n*b<=1048576*268435456:=Nat.mul_le_mul h hb
 have h3:(n:Int)*(b:Int)<=281474976710656:=by
  have:((n*b:Nat):Int)<=281474976710656:=by omega
  simpa using this
 rw [if_pos ⟨by omega,h3,by omega⟩]
 simp
end Go.Eng
namespace Go.Eng
open Go Go.RowKit
/-! ## Calls that write what they are handed -/
def pB(b:Nat):Nat->Prop:=fun k=>k=b
def pO(v:Value):Nat->Prop:=fun k=>v.ownBlock=some k
def DT(p q:Nat->Prop):Nat->Prop:=fun k=>p k∨q k
theorem AE{b:Nat}{Q:Nat->Prop}(h:Q b:=by omega):∀k,pB b k->Q k:=fun k e=>by have e:k=b:=e;rw [e];exact h
theorem Hn{v:Value}{Q:Nat->Prop}(h:∀g,v.ownBlock=some g->Q g):∀k,pO v k->Q k:=h
theorem Aj{p q:Nat->Prop}{Q:Nat->Prop}(h1:∀k,p k->Q k)(h2:∀k,q k->Q k):∀k,DT p q k->Q k:=fun k h=>h.elim (h1 k) (h2 k)
structure Ab(p:Nat->Prop)(w w':World):Prop where
 os:w'.os=w.os
 tape:w'.tape=w.tape
 output:w'.output=w.output
 size:w.heap.size<=w'.heap.size
 block:∀k,k<w.heap.size->¬p k->w'.heap[k]? =w.heap[k]?
section
variable {p q:Nat -> Prop} {w a c:World}
theorem Ab.refl(p:Nat->Prop)(w:World):Ab p w w:=⟨rfl,rfl,rfl,Nat.le_refl _,fun _ _ _=>rfl⟩
theorem Ab.ext(h:Ab p w a)(he:AR a c):Ab p w c:=
 ⟨he.os.trans h.os,he.tape.trans h.tape,he.output.trans h.output,Nat.le_trans h.size he.size,fun k hk hp=>(he.block k (Nat.lt_of_lt_of_le hk h.size)).trans (h.block k hk hp)⟩
theorem Ab.upd{b:Nat}(h:Ab p w a)(hu:Gk b a c)(hb:p b∨w.heap.size<=b):Ab p w c:=
 ⟨hu.os.trans h.os,hu.tape.trans h.tape,hu.output.trans h.output,by rw [hu.size];exact h.size,fun k hk hp=>(hu.block k (fun e=>by subst e;exact hb.elim hp (fun h=>by omega))).trans (h.block k hk hp)⟩
theorem Ab.grow{v v':Value}(h:Ab p w a)(hg:AQ a c v v')(hb:∀g,v.ownBlock=some g->p g∨w.heap.size<=g):Ab p w c:=
 ⟨hg.1.os.trans h.os,hg.1.tape.trans h.tape,hg.1.output.trans h.output,Nat.le_trans h.size hg.1.size,fun k hk hp=>(hg.1.block k (Nat.lt_of_lt_of_le hk h.size) (fun e=>(hb k e.symm).elim hp (fun h=>by omega))).trans (h.block k hk hp)⟩
theorem Ab.but(h:Ab p w a)(hq:Ab q a c)(hb:∀k,q k->p k∨w.heap.size<=k):Ab p w c:=
 ⟨hq.os.trans h.os,hq.tape.trans h.tape,hq.output.trans h.output,Nat.le_trans h.size hq.size,fun k hk hp=>(hq.block k (Nat.lt_of_lt_of_le hk h.size) (fun e=>(hb k e).elim hp (fun h=>by omega))).trans (h.block k hk hp)⟩
theorem Ab.below{lo:Nat}(h:Ab p w a)(hp:∀k,p k->lo<=k)(hl:lo<=w.heap.size):Below lo w a:=
 ⟨h.os,h.tape,h.output,h.size,fun k hk=>h.block k (by omega) (fun e=>by have:=hp k e;omega)⟩
theorem Ae.but{b:Nat}{us:List Value}{t:TypeId}(hb:Ae w b us t)(h:Ab p w a)(hne:∀k,p k->k≠b):Ae a b us t:=by
 have h1:=h.block b hb.lt (fun e=>hne b e rfl)
 unfold Ae at hb ⊢;rw [h1,hb]
theorem AD.but{α:Type}{d:Cy α}{lo hi:Nat}{xs:List α}{v:Value}(hs:AD d w (Iv lo hi) xs v)(h:Ab p w a)(hne:∀k,p k->k<lo∨hi<=k)(hle:hi<=w.heap.size):AD d a (Iv lo hi) xs v:=
 hs.mono (fun _ h=>h) (fun k hk=>h.block k (by have:=hk.2;omega) (fun e=>by have:=hne k e;have:=hk.1;have:=hk.2;omega))
theorem AC.butF{α:Type}{d:Cy α}[DU d]{B:Nat}{e:TypeId}{xs:List α}{v:Value}(ho:AC d w B (Iv 0 0) e xs v)(h:Ab p w a)(hne:∀k,p k->∀g,v.ownBlock=some g->k≠g):AC d a B (Iv 0 0) e xs v:=
 ho.keep (fun g hg=>h.block g (ho.blk g hg).2 (fun e=>hne g e g hg rfl)) (fun _ h=>h) (fun k h=>absurd h.2 (Nat.not_lt_zero k))
theorem AC.butN{α:Type}{d:Cy α}{B hi:Nat}{e:TypeId}{xs:List α}{v:Value}(ho:AC d w B (SX B hi v) e xs v)(h:Ab p w a)(hne:∀k,p k->∀g,v.ownBlock=some g->k≠g)(hle:hi<=w.heap.size)(hs:∀k,p k->k<B∨hi<=k):AC d a B (SX B hi v) e xs v:=
 ho.keep (fun g hg=>h.block g (ho.blk g hg).2 (fun e=>hne g e g hg rfl)) (fun _ h=>h) (fun k hk=>h.block k (by have:=hk.2.1;omega) (fun e=>by have:=hs k e;have:=hk.1;have:=hk.2.1;omega))
end
section
variable {P:Program} {N:Nat} {o:Oper} {K:KL} {w:World}
theorem BE{i:Nat}{v:Value}{us:List Value}{ps:List (Nat×Value)}{uss:List (Nat×List Value)}(h:v.cells.toList=us)(t:ps.map (fun p=>(p.1,p.2.cells.toList))=uss):((i,v)::ps).map (fun p=>(p.1,p.2.cells.toList))=(i,us)::uss:=by
 rw [List.map_cons,t,h]
theorem AD.cl{α:Type}{c:Cy α}{w:World}{S:Nat->Prop}{xs:List α}{v:Value}(h:AD c w S xs v):v.cells.toList=[v]:=by rw [AD.cells h]
/-! ## Functions as values, shifts, bits -/
theorem Ek{f first captured cs}(ho:o.op= .makeFunc (.func f) first captured)(h1:Ng K first.toList=some [])(h2:Ng K captured.toList=some cs):EL P N K o w (.func (.func f) #[] cs.toArray):=by
 intro a hK w' _
 have e1:first.map a.eval= #[]:=by
  have:=hK.evs h1
  apply Array.ext'
  simpa using this
 have e2:captured.map a.eval=cs.toArray:=by
  have:=hK.evs h2
  apply Array.ext'
  simpa using this
 simp [execOp,ho,Instr.makeFunc,e1,e2]
theorem FK{x f args tys vs cs}{R:Value->World->Prop}(ho:o.op= .call { callee:=.value x,args:=args,argTypes:=tys })(hf:Au P f=true)(hx:CL K x=some (.func (.func f) #[] cs))
 (ha:Ng K args.toList=some vs) (hc:Calls P f (vs++cs.toList).toArray w (Dn R)):LG P N K o w R:=by
 intro a hK Kt Q hk
 have he:args.map a.eval=vs.toArray:=by
  have:=hK.evs ha
  apply Array.ext'
  simpa using this
 have hr:(execOp a.eval o).run P w= .ok (.enter f (vs++cs.toList).toArray) w:=by
  have e:vs.toArray++cs=(vs++cs.toList).toArray:=by simp
  simp [execOp,ho,resolve,hK.ev hx,Deferred.ofValue,invoke,he,e,OV hf]
 unfold Oper.wp
 rw [hr]
 exact hc.mono fun e w' ⟨v,he,hR⟩=>by subst he;exact hk _ _ hR
def Of(k:IntKind)(m n:Int):Int:=m.fdiv (2^(min n.toNat k.bits))
def Je(k:IntKind)(m n:Int):Int:=k.wrap (m*2^(min n.toNat k.bits))
def Lx(k:IntKind)(m n:Int):Int:=k.wrap (BitVec.ofInt k.bits m&&&BitVec.ofInt k.bits n).toNat
def lB(k:IntKind)(m n:Int):Int:=k.wrap (BitVec.ofInt k.bits m^^^BitVec.ofInt k.bits n).toNat
theorem PR{t x y u k k2 m n}(ho:o.op= .binOp .shr t x y u)(hx:CL K x=some (.int k m))(hy:CL K y=some (.int k2 n))(h0:¬n<0):EL P N K o w (.int k (Of k m n)):=by
 intro a hK w' _
 simp [execOp,ho,hK.ev hx,hK.ev hy,eqGuard,binOp,Op.shift,h0,Of]
theorem Nd{t x y u k k2 m n}(ho:o.op= .binOp .shl t x y u)(hx:CL K x=some (.int k m))(hy:CL K y=some (.int k2 n))(h0:¬n<0):EL P N K o w (.int k (Je k m n)):=by
 intro a hK w' _
 simp [execOp,ho,hK.ev hx,hK.ev hy,eqGuard,binOp,Op.shift,h0,Je]
theorem Nc{t x y u k m n}(ho:o.op= .binOp .and t x y u)(hx:CL K x=some (.int k m))(hy:CL K y=some (.int k n)):EL P N K o w (.int k (Lx k m n)):=by
 intro a hK w' _
 simp [execOp,ho,hK.ev hx,hK.ev hy,eqGuard,binOp,Op.intBits,Lx]
theorem Ta{b:Int}{α:Type}{y:Option α}{r:α}(h:(bif decide (b<0)then none else y)=some r):¬b<0∧y=some r:=by
 by_cases hb:b<0
 ·simp [hb]at h
 ·exact⟨hb,by simpa [hb] using h⟩
end
end Go.Eng
namespace Go.Eng
open Go Go.RowKit
section
variable {P:Program} {N:Nat} {o:Oper} {K:KL} {w:World}
theorem QB{t x y u e}(ho:o.op= .binOp .eql t x y u)(hu:P.underlying t=some (.slice e))(hx:CL K x=some (.slice none 0 0))(hy:CL K y=some (.slice none 0 0)):EL P N K o w (.bool true):=by
 intro a hK w' _
 simp [execOp,ho,hK.ev hx,hK.ev hy,eqGuard,binOp,run_equal_slice_nil,hu]
theorem Pz{t x y u e p n cap}(ho:o.op= .binOp .eql t x y u)(hu:P.underlying t=some (.slice e))(hx:CL K x=some (.slice (some p) n cap))(hy:CL K y=some (.slice none 0 0)):EL P N K o w (.bool false):=by
 intro a hK w' _
 simp [execOp,ho,hK.ev hx,hK.ev hy,eqGuard,binOp,run_equal_slice_nil,hu]
theorem AD.nil_or{α:Type}{c:Cy α}{S:Nat->Prop}{xs:List α}{v:Value}(h:AD c w S xs v):(v= .slice none 0 0∧xs=[])∨∃p n cap,v= .slice (some p) n cap:=by
 obtain⟨a,cap,rfl,⟨h2,h3⟩,_,_⟩:=h
 cases a with
 |none=>
  have:=h3 rfl
  have hx:xs=[]:=List.eq_nil_of_length_eq_zero (by omega)
  subst hx;subst this;exact .inl ⟨rfl,rfl⟩
 |some p=>exact .inr ⟨p,_,cap,rfl⟩
variable {Q:Exit -> Act -> World -> Prop}
theorem WC.cond_t{c:Operand}{x y:Code}(hc:CL K c=some (.bool true))(ht:WC P N x Q K w):WC P N (.cond c x y) Q K w:=WC.cond hc (fun _=>ht) (fun h=>absurd h (by decide))
theorem WC.cond_f{c:Operand}{x y:Code}(hc:CL K c=some (.bool false))(hf:WC P N y Q K w):WC P N (.cond c x y) Q K w:=WC.cond hc (fun h=>absurd h (by decide)) (fun _=>hf)
/-! ## A drawn region that writes what was there: the blocks of p -/
def YA(P:Program)(N:Nat)(K:KL)(o:Oper)(Ψ:Value->Prop):Prop:=∃v,(∀w,EL P N K o w v)∧Ψ v
theorem Nu{α:Type}{c:Cy α}{xs:List α}{y:α}{t x i e v k m S}(ho:o.op= .indexAddr t x i)(hu:P.underlying t=some (.slice e))(hc:BP P e=some c.n)(hx:CL K x=some v)
 (hi2:CL K i=some (.int k m)) (hs:AD c w S xs v) (hg:AL xs m=some y):
 YA P N K o (fun u=>∃b off us,u= .pointer (some ⟨b,off,none⟩)∧S b∧c.rep w S y us∧AO w b off us):=by
 obtain⟨a,cap,rfl,h2,h3,h4⟩:=hs
 obtain⟨g0,g1,g2⟩:=EM hg
 obtain⟨b,off,rfl,h5,h7⟩:=h4 (by omega)
 obtain⟨us,h8,h9⟩:=h7 _ _ g2
 exact⟨_,fun w=>Ex ho hu hc hx hi2 g0 g1,b,_,us,rfl,h5,h8,h9⟩
theorem BI{α:Type}{c:Cy α}{xs:List α}{v:Value}{B:Nat}{S:Nat->Prop}{e:TypeId}{y:α}{t x i k m}(ho:o.op= .indexAddr t x i)(hu:P.underlying t=some (.slice e))(hc:BP P e=some c.n)(hx:CL K x=some v)
 (hi2:CL K i=some (.int k m)) (hs:AC c w B S e xs v) (hg:AL xs m=some y):
 YA P N K o (fun u=>∃g us,u= .pointer (some ⟨g,0+m.toNat*c.n,none⟩)∧v.ownBlock=some g∧c.rep w S y us∧AO w g (0+m.toNat*c.n) us):=by
 obtain⟨u,h1,g,us,rfl,h2,h3,h4⟩:=ML (N:=N) ho hu hc hx hi2 hs hg
 obtain⟨g0,g1,g2⟩:=EM hg
 obtain⟨cs,⟨hl,⟨rfl,_⟩|⟨g',cap,cur,rfl,_⟩⟩,_⟩:=hs
 ·cases h2
 ·have h2:g'=g:=Option.some.inj h2
  subst h2
  exact⟨_,fun w=>by have:=Ex (N:=N) (w:=w) ho hu hc hx hi2 g0 g1;simpa [Ct] using this,g',us,rfl,rfl,h3,h4⟩
end
section
variable {P:Program} {N:Nat} {ops:Array Oper} {Q:Exit -> Act -> World -> Prop} {n:Nat} {K:KL} {w w0:World} {f:Nat} {listed:Array Bool} {p:Nat -> Prop}
def EQ(P:Program)(N:Nat)(ops:Array Oper)(n:Nat)(Q:Exit->Act->World->Prop)(p:Nat->Prop)(w0:World)(f:Nat)(listed:Array Bool)(K:KL)(w:World):Prop:=
 HeadInv .any ops n listed->Ab p w0 w->∀a,Kn N K a->DJ P .any ops n Q (fun w'=>Ab p w0 w') f listed a w
theorem EQ.yld{o:Oper}{v:Value}(i:Nat)(hh:EU ops n=true)(hi:ops[i]? =some o)(hc:(Nat.blt i n&&Region.free .any ops listed i&&(Region.ready .any ops listed).contains i)=true)(hg:o.guard=none)(hd:Eb N o.dst=true)
 (h:∀wx,Ab p w0 wx->EL P N K o wx v) (k:EQ P N ops n (noPan Q) p w0 f (listed.setIfInBounds i true) (Bq K o.dst v) w):EQ P N ops n (noPan Q) p w0 (f+1) listed K w:=by
 intro inv hx a hK
 obtain⟨hs,hn,ht⟩:=EU.spec hh
 simp only [Bool.and_eq_true]at hc
 have hin:i<n:=by have h2:=hc.1.1;simp [Nat.blt]at h2;omega
 have hr:i∈Region.ready .any ops listed:=by simpa using hc.2
 refine DJ.first hi hin hn (Region.noSelect_spec hs) ht (fun c a w h=>h.elim) f listed a w inv (Region.free_spec hi hc.1.2) hr ?_ hx (k (inv.set hr hin) hx _ (hK.put (Eb.h hd)))
 exact .inl ⟨by simp [Region.wanted,hg],fun w' hw'=>h w' hw' a hK w' (AR.refl w')⟩
theorem EQ.ya{o:Oper}{Ψ:Value->Prop}(i:Nat)(hh:EU ops n=true)(hi:ops[i]? =some o)(hc:(Nat.blt i n&&Region.free .any ops listed i&&(Region.ready .any ops listed).contains i)=true)(hg:o.guard=none)(hd:Eb N o.dst=true)
 (h:YA P N K o Ψ) (k:∀v,Ψ v->EQ P N ops n (noPan Q) p w0 f (listed.setIfInBounds i true) (Bq K o.dst v) w):EQ P N ops n (noPan Q) p w0 (f+1) listed K w:=by
 obtain⟨v,h1,h2⟩:=h;exact EQ.yld i hh hi hc hg hd (fun wx _=>h1 wx) (k v h2)
theorem EQ.eff{o:Oper}{R:Value->World->Prop}(i:Nat)(hi:ops[i]? =some o)(hin:Nat.blt i n=true)(hr:Region.ready .any ops listed=[i])(hg:o.guard=none)(hd:Eb N o.dst=true)
 (h:LG P N K o w R) (k:∀v w',R v w'->Ab p w0 w'∧EQ P N ops n (noPan Q) p w0 f (listed.setIfInBounds i true) (Bq K o.dst v) w'):EQ P N ops n (noPan Q) p w0 (f+1) listed K w:=by
 intro inv hx a hK
 have hin':i<n:=by have h2:=hin;simp [Nat.blt]at h2;omega
 have hri:i∈Region.ready .any ops listed:=by rw [hr];simp
 refine⟨fun h0=>(by rw [h0]at hr;cases hr),fun j hj=>?_⟩
 rw [hr]at hj
 have hji:j=i:=by simpa using hj
 subst hji
 unfold wpOp
 simp only [hi]
 rw [if_pos (by simp [Region.wanted,hg])]
 refine .inl (h a hK _ _ fun u w' hR=>?_)
 obtain⟨h1,h2⟩:=k u w' hR
 exact⟨fun _=>h1,h2 (inv.set hri hin') h1 _ (hK.put (Eb.h hd))⟩
theorem EQ.tail{l:List Oper}(hops:ops=l.toArray)(hseq:Region.seqB .any ops (l.drop n).length n listed=true)(hf:f=(l.drop n).length)(k:TL P N ops (noPan Q) (l.drop n) K w):EQ P N ops n (noPan Q) p w0 f listed K w:=by
 intro inv hx a hK
 rw [hf]
 exact DJ.seq (l.drop n) n listed a w (fun j=>by rw [hops,List.getElem?_drop];simp) (Nat.le_refl n) hseq (k a hK)
theorem WC.heldG{id:Nat}{l:List Oper}(n:Nat)(hm:P.follows .mixedOrders=true)
 (h:∀w',AR w w'->EQ P N l.toArray n (noPan Q) p w' l.length (Array.replicate l.length false) K w'):WC P N (.region id l.toArray true) Q K w:=by
 intro a hK
 have inv0:HeadInv .any l.toArray n (Array.replicate l.length false):=
  ⟨by simp,fun j oj _ hl=>(by rw [getD_replicate_false]at hl;cases hl),fun t _ ht=>getD_in (by simpa using ht) (getD_replicate_false _ _)⟩
 refine Code.wp_mono ?_ (wp_region_any hm (DJ.any _ _ _ _ (h w.drew (AR.drew w) (by simpa using inv0) (Ab.refl p _) a hK)))
 intro e a w hq
 cases e<;>first|exact hq|exact hq.elim
theorem AO.but{b off:Nat}{us:List Value}(h:AO w b off us)(hb:Ab p w w0)(hne:∀k,p k->k≠b)(hlt:b<w.heap.size):AO w0 b off us:=h.block (hb.block b hlt (fun e=>hne b e rfl))
end
/-! ## What is left out within what is left out -/
section
variable {P:Program} {N:Nat} {ops:Array Oper} {Q:Exit -> Act -> World -> Prop} {K:KL} {w:World} {o:Oper} {rest:List Oper} {Qa:Act -> Prop}
end
end Go.Eng
namespace Go.Eng
open Go Go.RowKit
/-! ## Plain laws on the statements' marks -/
theorem sR{i:Nat}(h:i<4611686018427387904):IntKind.wrap IntKind.i64 ((i:Int)+1)=((i+1:Nat):Int):=by rw [Af (by omega) (by omega)];simp
end Go.Eng
namespace Go.Eng
open Go Go.RowKit
/-! ## Arrays in a box, texts put together, bytes as a text -/
section
variable {P:Program} {N:Nat} {K:KL} {o:Oper} {w:World}
theorem MP{t x i e b off k m sz len}(ho:o.op= .indexAddr t x i)(hu:P.underlying t=some (.array len e))(hc:BP P e=some sz)(hx:CL K x=some (.pointer (some ⟨b,off,none⟩)))
 (hi:CL K i=some (.int k m)) (h0:0<=m∧m<(len:Int)):EL P N K o w (.pointer (some ⟨b,off+m.toNat*sz,none⟩)):=by
 intro a hK w' _
 obtain⟨i,hi2,hs⟩:=Option.map_eq_some_iff.1 hc
 simp [execOp,ho,hK.ev hx,hK.ev hi,Instr.indexAt,Instr.sureAddr,asIntOf,run_underlying hu,h0.1,h0.2,sizeOf,typeInfo,hi2,hs,Ct]
def NL(x y:ByteArray):Option ByteArray:=if ((x.size+y.size:Nat):Int)>IntKind.i64.max then none else some (x++y)
theorem MO{t x y u m n r}(ho:o.op= .binOp .add t x y u)(hx:CL K x=some (.string m))(hy:CL K y=some (.string n))(hr:NL m n=some r):EL P N K o w (.string r):=by
 intro a hK w' _
 unfold NL at hr
 split at hr
 ·cases hr
 ·rename_i hn
  obtain rfl:=Option.some.inj hr
  have e:(binOp .add t (.string m) (.string n)).run P w'= .ok (.string (m++n)) w':=by
   show(Op.stringOp .add m n).run P w'=_
   unfold Op.stringOp
   rw [if_neg hn];rfl
  simp [execOp,ho,hK.ev hx,hK.ev hy,eqGuard,Sem.run_bind,e]
def QV(xs:List Int):ByteArray:=xs.foldl (fun r n=>r.push (UInt8.ofNat n.toNat)) ByteArray.empty
theorem Mo{s t x e v xs S}(ho:o.op= .convert s t x)(hs:P.underlying s=some (.slice e))(he:P.underlying e=some (.int .u8))(ht:P.underlying t=some .string)(hx:CL K x=some v)(hr:AD (AJ .u8) w S xs v):
 EL P N K o w (.string (QV xs)):=by
 intro a hK w' hw
 obtain⟨ad,cap,rfl,⟨h2,h3⟩,h4,h5⟩:=hr
 have e1:=run_convert_bytes_string (P:=P) w' s t e ad xs.length cap hs he ht
 have e2:(Conv.bytesToString (.slice ad xs.length cap)).run P w'= .ok (.string (QV xs)) w':=by
  cases ad with
  |none=>
   have:xs=[]:=by
    cases xs with
    |nil=>rfl
    |cons y ys=>obtain⟨b,off,q,_⟩:=h5 (by simp);cases q
   subst this;rfl
  |some ad=>
   refine run_bytesToString w' ad xs.length cap xs ?_
   by_cases hl:0<xs.length
   ·obtain⟨b,off,q,_,h6⟩:=h5 hl
    obtain rfl:=Option.some.inj q
    have:=run_loadCells_list (P:=P) w' ⟨b,off,none⟩ (xs.map (Value.int .u8)) (fun j v hj=>by
     rw [List.getElem?_map]at hj
     cases hx2:xs[j]? with
     |none=>rw [hx2]at hj;cases hj
     |some y=>
      rw [hx2]at hj
      obtain rfl:=Option.some.inj hj
      obtain⟨us,h7,h8⟩:=h6 j y hx2
      obtain rfl:us=[.int .u8 y]:=h7
      have h9:=h8.ext hw 0 _ rfl
      rw [Ct]
      simpa [AJ] using h9.1)
    simpa using this
   ·have:xs=[]:=by
     cases xs with
     |nil=>rfl
     |cons y ys=>simp at hl
    subst this;rfl
 simp [execOp,ho,hK.ev hx,e1,e2]
end
/-! ## Plain laws on sizes and marks -/
theorem Na{x y:ByteArray}(h:x.size+y.size<=4611686018427387904):NL x y=some (x++y):=by
 unfold NL
 rw [if_neg (by show¬_>(9223372036854775807:Int);omega)]
theorem Mt(xs:List Int):(QV xs).size=xs.length:=by
 have:∀(xs:List Int) (b:ByteArray),(xs.foldl (fun r n=>r.push (UInt8.ofNat n.toNat)) b).size=b.size+xs.length:=by
  intro xs;induction xs with
  |nil=>intro b;rfl
  |cons x xs ih=>intro b;rw [List.foldl_cons,ih,ByteArray.size_push,List.length_cons];omega
 have:=this xs ByteArray.empty
 simpa [QV] using this
end Go.Eng
namespace Go.Eng
open Go Go.RowKit Go.ChangeShapes Go.WideShapes Go.ChangeAt
/-! ## A statement whose answer is true, where package-level variables are laid -/
theorem Zs{C:Checked}{os:Os}{f:FuncId}{fn:Func}{s:ChangeSpec}{conds:List PathCond}{H:Type}{enc:TypeId×Value->H}{tb:TypeId}{laid:List (String×DataW Unit)}
 (own:ownKnob C.prog.godebug=none) (started:os.Started) (noInit:C.prog.inits.idxOf? f=none) (hfn:C.prog.funcs[f]? =some fn)
 (witness:∃(w:World) (tape:Tape) (i:Input),w.os=os∧(w.forCall tape i).Shaped C.prog∧i.vars=[]∧Input.okWide C.prog (w.forCall tape i) .any w.heap.size f i∧
  ((s.pre enc C.prog fn conds false (w.forCall tape i).memory i.args∧laidMetH C.prog laid (w.forCall tape i).memory)∧sizedMet enc C.prog fn (OpenSpec.ofChange s) false (w.forCall tape i).memory i.args)∧({}:Assume).holds C.prog (lone (Frame.enter C.prog f i.args .normal) [] (w.forCall tape i)))
 (hl:laidOutB C.prog=true) (hvars:s.vars=[]) (hspec:∀ds:List (DataW H),ds.length=fn.params.toList.length->s.fn H ds={ results:=[.lit (.bool true)],args:=ds })
 (hrt:fn.resultTypes= #[tb]) (hub:C.prog.underlying tb=some .bool) (hpar:∀t∈fn.params.toList,C.prog.readableRec t=true∧t<C.prog.types.size)
 (run:∀(W:World) (base:Nat) (args:Array Value) (ds:List (DataW H)) (p:List MemPlace),
  (∀(j:Nat) t v,fn.params[j]? =some t->args[j]? =some v->Value.okWide C.prog W .any base t v)->
  DataW.TrodAll enc C.prog W 0 (fun _=>true) true fn.params.toList args.toList ds p->W.noneFrozen p->
  Calls C.prog f args W (Dn fun u w2=>u= .bool true∧AR W w2)):
 ReturnsInHanded {} C os f .any (fun w args=>(s.pre enc C.prog fn conds false w args∧laidMetH C.prog laid w)∧sizedMet enc C.prog fn (OpenSpec.ofChange s) false w args) (s.post enc C.prog fn false true false false):=by
 refine returnsInHanded_of_change_and (X:=fun w _=>laidMetH C.prog laid w) (fun _ _ _ hh h=>h.of_heap hh) own started noInit hfn witness ?_
 intro W base args ds gs before hval hW _ _ _ _
 have hW':=hW
 obtain⟨p,q,hA,hV,rfl,hz,_⟩:=hW
 rw [hvars]at hV
 obtain⟨rfl,rfl⟩:=trodVars_none hV
 refine(run W base args ds p hval hA (fun b' o' hm=>hz b' o' (List.mem_append_left _ hm))).mono fun e W' ⟨v,he,hv,hB⟩=>?_
 subst hv
 have e1:s.fn H (ds++[])={ results:=[.lit (.bool true)],args:=ds }:=by rw [List.append_nil];exact hspec ds (NK hA)
 refine⟨_,he,ds,[],p++[],[],p,[],hW',?_,?_,?_,hB.frame _,fun h=>by cases h⟩
 ·rw [e1,hrt]
  exact⟨[],[],⟨1,by simp [DataW.trod,Value.cells,hub]⟩,rfl,rfl⟩
 ·rw [e1]
  exact LP hl hB hpar hA (fun x hx=>hW'.lt x (List.mem_append_left _ hx))
 ·rw [e1,hvars];rfl
section
variable {H:Type} {enc:TypeId × Value -> H} {P:Program} {w:World} {base:Nat} {spare:Nat -> Bool} {held:Bool}
theorem cL{t:TypeId}{ts:List TypeId}{vs:List Value}{ds:List (DataW H)}{ps:List MemPlace}(h:DataW.TrodAll enc P w base spare held (t::ts) vs ds ps):
 ∃v vs' d ds' p q,vs=v::vs'∧ds=d::ds'∧DataW.Trod enc P w base spare held t v d p∧DataW.TrodAll enc P w base spare held ts vs' ds' q:=by
 match vs,ds,h with
 |v::vs',d::ds',⟨p,q,h1,h2,_⟩=>exact⟨v,vs',d,ds',p,q,rfl,rfl,h1,h2⟩
theorem dA{vs:List Value}{ds:List (DataW H)}{ps:List MemPlace}(h:DataW.TrodAll enc P w base spare held [] vs ds ps):vs=[]∧ds=[]:=by
 match vs,ds,h with
 |[],[],_=>exact⟨rfl,rfl⟩
theorem aH{t:TypeId}{ts:List TypeId}{vs:List Value}{ds:List (DataW H)}{ps:List MemPlace}(h:DataW.TrodAll enc P w base spare held (t::ts) vs ds ps)(hz:w.noneFrozen ps):
 ∃v vs' d ds' p q,vs=v::vs'∧ds=d::ds'∧DataW.Trod enc P w base spare held t v d p∧w.noneFrozen p∧DataW.TrodAll enc P w base spare held ts vs' ds' q∧w.noneFrozen q:=by
 match vs,ds,h with
 |v::vs',d::ds',⟨p,q,h1,h2,e⟩=>subst e;exact⟨v,vs',d,ds',p,q,rfl,rfl,h1,fun b o hm=>hz b o (List.mem_append_left _ hm),h2,fun b o hm=>hz b o (List.mem_append_right _ hm)⟩
theorem kG{a:Array Value}{l:List Value}(h:a.toList=l):a=l.toArray:=by rw [←h]
end
section
variable {P:Program} {N:Nat} {K:KL} {o:Oper} {w w0:World}
theorem JR{α:Type}{c:Cy α}{B:Nat}{S:Nat->Prop}{e:TypeId}{xs:List α}{v:Value}{t x}(ho:o.op= .call { callee:=.builtin .len,args:=#[x],argTypes:=#[t] })(hu:P.underlying t=some (.slice e))(hx:CL K x=some v)(hs:AC c w0 B S e xs v):
 EL P N K o w (.int .i64 xs.length):=by
 obtain⟨cs,⟨_,⟨rfl,hn⟩|⟨g,cap,cur,rfl,_⟩⟩,_⟩:=hs
 ·have:=Kv (N:=N) (w:=w) ho hu hx;rw [hn];exact this
 ·exact Kv ho hu hx
theorem Xg{α:Type}{c:Cy α}{e:TypeId}{xs:List α}{v:Value}{S:Nat->Prop}{t x}(ho:o.op= .call { callee:=.builtin .len,args:=#[x],argTypes:=#[t] })(hu:P.underlying t=some (.slice e))(hx:CL K x=some v)(hs:AD c w0 S xs v):
 EL P N K o w (.int .i64 xs.length):=by
 obtain⟨a,cap,rfl,h2,h3,h4⟩:=hs
 exact Kv ho hu hx
end
end Go.Eng
namespace Go.Eng
open Go Go.RowKit
/-! ## Orders of a drawn region that writes -/
section
variable {P:Program} {N:Nat} {ops:Array Oper} {Q:Exit -> Act -> World -> Prop} {n:Nat} {K:KL} {w w0:World} {f:Nat} {listed:Array Bool} {p:Nat -> Prop}
def iD(P:Program)(N:Nat)(ops:Array Oper)(n:Nat)(Q:Exit->Act->World->Prop)(p:Nat->Prop)(w0:World)(f:Nat)(listed:Array Bool)(K:KL)(w:World)(j:Nat):Prop:=
 HeadInv .any ops n listed->Ab p w0 w->∀a,Kn N K a->wpOp P ops Q j (fun a' w'=>(j<n->Ab p w0 w')∧DJ P .any ops n Q (fun w'=>Ab p w0 w') f (listed.setIfInBounds j true) a' w') a w
theorem EQ.many{js:List Nat}(hr:Region.ready .any ops listed=js)(hne:js.isEmpty=false)(h:∀j∈js,iD P N ops n Q p w0 f listed K w j):EQ P N ops n Q p w0 (f+1) listed K w:=by
 intro inv hx a hK
 refine⟨fun h0=>(by rw [hr]at h0;subst h0;cases hne),fun j hj=>?_⟩
 rw [hr]at hj
 exact h j hj inv hx a hK
theorem iD.eff{o:Oper}{R:Value->World->Prop}(i:Nat)(hi:ops[i]? =some o)(hin:Nat.blt i n=true)(hr:(Region.ready .any ops listed).contains i=true)(hg:o.guard=none)(hd:Eb N o.dst=true)
 (h:LG P N K o w R) (k:∀v w',R v w'->Ab p w0 w'∧EQ P N ops n (noPan Q) p w0 f (listed.setIfInBounds i true) (Bq K o.dst v) w'):iD P N ops n (noPan Q) p w0 f listed K w i:=by
 intro inv hx a hK
 have hin':i<n:=by have h2:=hin;simp [Nat.blt]at h2;omega
 have hri:i∈Region.ready .any ops listed:=by simpa using hr
 unfold wpOp
 simp only [hi]
 rw [if_pos (by simp [Region.wanted,hg])]
 refine .inl (h a hK _ _ fun u w' hR=>?_)
 obtain⟨h1,h2⟩:=k u w' hR
 exact⟨fun _=>h1,h2 (inv.set hri hin') h1 _ (hK.put (Eb.h hd))⟩
theorem Ab.trans(h:Ab p w0 w){w2:World}(h2:Ab p w w2):Ab p w0 w2:=h.but h2 fun _ hk=>.inl hk
theorem EQ.shrink(h:EQ P N ops n Q p w f listed K w):EQ P N ops n Q p w0 f listed K w:=by
 intro inv hx a hK
 exact DJ.mono (fun w2 h2=>Ab.trans hx h2) _ _ _ _ (h inv (Ab.refl p w) a hK)
end
end Go.Eng
namespace Go.Eng
open Go Go.RowKit
/-! ## The beginning of an own slice -/
def Zp(v:Value)(m:Nat):Value:=match v with
 | .slice a _ cap=>.slice a m cap
 |v=>v
section
variable {P:Program} {N:Nat} {o:Oper} {K:KL} {w:World}
variable {α:Type} {c:Cy α} {B:Nat} {S:Nat -> Prop} {e:TypeId} {xs:List α} {v:Value}
theorem Wg{m:Nat}:(Zp v m).ownBlock=v.ownBlock:=by
 cases v with
 |slice a n cap=>cases a<;>rfl
 |_=>rfl
theorem AC.cut(h:AC c w B S e xs v){m:Nat}(hm:m<=xs.length):AC c w B S e (xs.take m) (Zp v m):=by
 obtain⟨cs,⟨hl,h1⟩,h2⟩:=h
 have hmn:m*c.n<=xs.length*c.n:=Nat.mul_le_mul_right _ hm
 refine⟨cs.take (m*c.n),⟨?_,?_⟩,?_⟩
 ·rw [List.length_take,List.length_take]
  rw [show min m xs.length=m by omega];omega
 ·rw [List.length_take,show min m xs.length=m by omega]
  rcases h1 with ⟨rfl,h0⟩|⟨g,cap,cur,rfl,a1,a2,a3,a4,a5,a6⟩
  ·obtain rfl:m=0:=by omega
   exact .inl ⟨rfl,rfl⟩
  ·refine .inr ⟨g,cap,cur,rfl,a1,a2,by omega,a4,a5,?_⟩
   rw [←a6,List.take_take]
   congr 1;omega
 ·intro i x hx
  have hi:i<m:=by
   have:=(List.getElem?_eq_some_iff.1 hx).1
   rw [List.length_take]at this;omega
  rw [List.getElem?_take_of_lt hi]at hx
  have:=h2 i x hx
  have e1:BJ (cs.take (m*c.n)) c.n i=BJ cs c.n i:=by
   unfold BJ
   have:(i+1)*c.n<=m*c.n:=Nat.mul_le_mul_right _ (by omega)
   rw [Nat.add_mul]at this
   rw [List.drop_take,List.take_take]
   congr 1;omega
  rw [e1];exact this
end
end Go.Eng
namespace Go.Eng
open Go Go.RowKit
/-! ## Steps that ask for no fact, many at once -/
def cC(op:BinOp)(k:IntKind)(m n:Int):Option Value:=match op with
 | .add=>some (.int k (k.wrap (m+n)))
 | .sub=>some (.int k (k.wrap (m-n)))
 | .mul=>some (.int k (k.wrap (m*n)))
 | .quo=>bif n==0 then none else some (.int k (k.wrap (m.tdiv n)))
 | .rem=>bif n==0 then none else some (.int k (m.tmod n))
 | .lss=>some (.bool (decide (m<n)))
 | .leq=>some (.bool (decide (m<=n)))
 | .gtr=>some (.bool (decide (m>n)))
 | .geq=>some (.bool (decide (m>=n)))
 | .eql=>some (.bool (m==n))
 | .neq=>some (.bool (m !=n))
 |_=>none
def yq(K:KL)(p:Op):Option Value:=match p with
 | .move x=>CL K x
 | .assign x=>CL K x
 | .binOp op _ x y _=>match CL K x,CL K y with
  |some (.int k m),some (.int k' n)=>bif decide (k=k')then cC op k m n else none
  |some (.string a),some (.string b)=>match op with
   | .eql=>some (.bool (a.toList==b.toList))
   | .neq=>some (.bool (a.toList !=b.toList))
   |_=>none
  |_,_=>none
 | .unOp u _ x=>match CL K x with
  |some (.bool b)=>match u with
   | .not=>some (.bool (!b))
   |_=>none
  |some (.int k m)=>match u with
   | .neg=>some (.int k (k.wrap (0-m)))
   |_=>none
  |_=>none
 | .extract x i=>match CL K x with
  |some (.tuple vs)=>vs[i]?
  |_=>none
 | .pick c x y=>match CL K c with
  |some (.bool b)=>match b with
   |true=>CL K x
   |false=>CL K y
  |_=>none
 |_=>none
section
variable {P:Program} {N:Nat}
theorem XB{K:KL}{o:Oper}{w:World}{op t x y u k m n v}(ho:o.op= .binOp op t x y u)(hx:CL K x=some (.int k m))(hy:CL K y=some (.int k n))(h:cC op k m n=some v):EL P N K o w v:=by
 cases op<;>simp only [cC,Option.some.injEq,reduceCtorEq]at h
 case add=>subst h;exact Xd ho hx hy
 case sub=>subst h;exact XI ho hx hy
 case mul=>subst h;exact Xb ho hx hy
 case quo=>obtain⟨h1,h2⟩:=LM h;obtain rfl:=Option.some.inj h2;exact Sh ho hx hy h1
 case rem=>obtain⟨h1,h2⟩:=LM h;obtain rfl:=Option.some.inj h2;exact Hm ho hx hy h1
 case lss=>subst h;exact Xn ho hx hy
 case leq=>subst h;exact XV ho hx hy
 case gtr=>subst h;exact YV ho hx hy
 case geq=>subst h;exact XL ho hx hy
 case eql=>subst h;exact XA ho hx hy
 case neq=>subst h;exact YD ho hx hy
theorem NJ{K:KL}{o:Oper}{w:World}{v:Value}(h:yq K o.op=some v):EL P N K o w v:=by
 generalize ho:o.op=p at h
 cases p<;>simp only [yq,reduceCtorEq]at h
 case move=>exact UM ho h
 case assign=>exact RK ho h
 case binOp=>
  split at h
  ·rename_i k m k' n hx hy
   by_cases hk:k=k'
   ·subst hk;rw [decide_eq_true rfl]at h;exact XB ho hx hy h
   ·rw [decide_eq_false hk]at h;cases h
  ·rename_i a b hx hy
   split at h
   ·obtain rfl:=Option.some.inj h;exact Xr ho hx hy
   ·obtain rfl:=Option.some.inj h;exact XD ho hx hy
   ·cases h
  ·cases h
 case unOp=>
  split at h
  ·rename_i b hx
   split at h
   ·obtain rfl:=Option.some.inj h;exact XN ho hx
   ·cases h
  ·rename_i k m hx
   split at h
   ·obtain rfl:=Option.some.inj h;exact Xw ho hx
   ·cases h
  ·cases h
 case extract=>
  split at h
  ·rename_i vs hx;exact GS ho hx h
  ·cases h
 case pick=>
  split at h
  ·rename_i b hc
   split at h
   ·exact SA ho hc rfl h
   ·exact Ra ho hc rfl h
  ·cases h
end
inductive Gd where
 |yes|skip|no
def Fm(N:Nat)(ops:Array Oper)(K:KL)(o:Oper):Gd:=match Eb N o.dst with
 |false=>.no
 |true=>match o.guard with
  |none=>.yes
  |some (j,want)=>match Mz ops j with
   |none=>.no
   |some t=>match kl K t with
    |some (.bool b)=>match b with
     |true=>match want with
      |true=>.yes
      |false=>.skip
     |false=>match want with
      |true=>.skip
      |false=>.yes
    |some (.tuple _)=>.skip
    |_=>.no
section
variable {P:Program} {N:Nat} {ops:Array Oper} {Q:Exit -> Act -> World -> Prop} {K:KL} {w:World} {o:Oper} {rest:List Oper} {Qa:Act -> Prop}
theorem Ks{g:Gd}(h:Fm N ops K o=g)(hg:g≠ .no):Eb N o.dst=true:=by
 subst h
 cases hd:Eb N o.dst with
 |true=>rfl
 |false=>exact absurd (by simp [Fm,hd]) hg
theorem Fx(h:Fm N ops K o= .yes){a:Act}(hK:Kn N K a):Region.wanted o (yielded ops a.tmps)=true:=by
 unfold Fm at h
 split at h
 ·cases h
 split at h
 ·rename_i hg;simp [Region.wanted,hg]
 ·rename_i j want hg
  split at h
  ·cases h
  ·rename_i t hs
   split at h
   ·rename_i b hb
    refine Rt hK hg hs hb ?_
    cases b<;>cases want<;>first|rfl|cases h
   ·cases h
   ·cases h
theorem OI(h:Fm N ops K o= .skip){a:Act}(hK:Kn N K a):Region.wanted o (yielded ops a.tmps)=false:=by
 unfold Fm at h
 split at h
 ·cases h
 split at h
 ·cases h
 ·rename_i j want hg
  split at h
  ·cases h
  ·rename_i t hs
   split at h
   ·rename_i b hb
    refine Tc hK hg hs hb ?_
    cases b<;>cases want<;>first|rfl|cases h
   ·rename_i x hb
    have h1:=hK.get t _ hb
    unfold Mz at hs
    simp [Region.wanted,hg,yielded,hs,h1]
   ·cases h
theorem Yl{v:Value}(h0:Fm N ops K o= .yes)(h:EL P N K o w v)(k:TL P N ops Q rest (Bq K o.dst v) w):TL P N ops Q (o::rest) K w:=by
 intro a hK
 unfold wpList
 rw [if_pos (Fx h0 hK)]
 exact .inl (h.eff a hK _ Q fun u w' ⟨e1,e2⟩=>by subst e1 e2;exact k _ (hK.put (Eb.h (Ks h0 (by simp)))))
theorem Ef{R:Value->World->Prop}(h0:Fm N ops K o= .yes)(h:LG P N K o w R)(k:∀v w',R v w'->TL P N ops Q rest (Bq K o.dst v) w'):TL P N ops Q (o::rest) K w:=by
 intro a hK
 unfold wpList
 rw [if_pos (Fx h0 hK)]
 exact .inl (h a hK _ Q fun u w' hR=>k u w' hR _ (hK.put (Eb.h (Ks h0 (by simp)))))
theorem Ye{Ψ:Value->Prop}(h0:Fm N ops K o= .yes)(h:YE P N K o w Ψ)(k:∀v,Ψ v->TL P N ops Q rest (Bq K o.dst v) w):TL P N ops Q (o::rest) K w:=by
 obtain⟨v,h1,h2⟩:=h;exact Yl h0 h1 (k v h2)
theorem Sk(h0:Fm N ops K o= .skip)(k:TL P N ops Q rest (Bq K o.dst undef) w):TL P N ops Q (o::rest) K w:=by
 intro a hK
 unfold wpList
 rw [if_neg (by rw [OI h0 hK];exact Bool.false_ne_true)]
 exact k _ (hK.put (Eb.h (Ks h0 (by simp))))
theorem Ql{v:Value}(h0:Fm N ops K o= .yes)(h:kL P N K o w v)(k:QL P N ops w Qa rest (Bq K o.dst v)):QL P N ops w Qa (o::rest) K:=by
 intro a hK
 unfold wpQuiet
 rw [if_pos (Fx h0 hK)]
 exact⟨v,fun w' hw'=>h a hK w' hw',k _ (hK.put (Eb.h (Ks h0 (by simp))))⟩
theorem Qy{v:Value}(h0:Fm N ops K o= .yes)(h:EL P N K o w v)(k:QL P N ops w Qa rest (Bq K o.dst v)):QL P N ops w Qa (o::rest) K:=Ql h0 h.qui k
theorem Qe{Ψ:Value->Prop}(h0:Fm N ops K o= .yes)(h:YE P N K o w Ψ)(k:∀v,Ψ v->QL P N ops w Qa rest (Bq K o.dst v)):QL P N ops w Qa (o::rest) K:=by
 obtain⟨v,h1,h2⟩:=h;exact Qy h0 h1 (k v h2)
theorem Qs(h0:Fm N ops K o= .skip)(k:QL P N ops w Qa rest (Bq K o.dst undef)):QL P N ops w Qa (o::rest) K:=by
 intro a hK
 unfold wpQuiet
 rw [if_neg (by rw [OI h0 hK];exact Bool.false_ne_true)]
 exact k _ (hK.put (Eb.h (Ks h0 (by simp))))
theorem Kn.know{a:Act}{t:Nat}{u u':Value}(hK:Kn N K a)(h:kl K t=some u)(e:u=u'):Kn N ((t,u')::K) a:=by
 subst e
 refine⟨hK.df,hK.sz,fun s v hs=>hK.get s v ?_⟩
 simp only [kl]at hs
 cases hb:Nat.beq t s with
 |true=>obtain rfl:=Nat.eq_of_beq_eq_true hb;rw [hb]at hs;simp at hs;subst hs;exact h
 |false=>rw [hb]at hs;simpa using hs
theorem Kc(t:Nat){b b':Bool}{l:List Oper}(e:b=b')(h:kl K t=some (.bool b))(k:TL P N ops Q l ((t,.bool b')::K) w):TL P N ops Q l K w:=fun a hK=>k a (hK.know h (by rw [e]))
theorem Kq(t:Nat){b b':Bool}{l:List Oper}(e:b=b')(h:kl K t=some (.bool b))(k:QL P N ops w Qa l ((t,.bool b')::K)):QL P N ops w Qa l K:=fun a hK=>k a (hK.know h (by rw [e]))
theorem kA{c b:Bool}(h:c=true):b=(c&&b):=by subst h;rfl
theorem kM{c b:Bool}(h:c=false):false=(c&&b):=by subst h;rfl
theorem dC{c b:Bool}(h:c=true):true=(c||b):=by subst h;rfl
theorem cY{c b:Bool}(h:c=false):b=(c||b):=by subst h;rfl
end
inductive Frame where
 |seq (c:Code)
 |blk (id:Nat)
 |lp (f:Act->World->Prop)
inductive Md where
 |c (c:Code)
 |o (ops:Array Oper) (l:List Oper)
 |e (e:Exit)
section
variable (P:Program) (N:Nat) (Q0:Exit -> Act -> World -> Prop)
def GC:List Frame->Exit->Act->World->Prop
 |[]=>Q0
 | .seq c::fs=>Exit.then (fun a w=>c.wp P (GC fs) a w) (GC fs)
 | .blk id::fs=>Exit.inBlock id (GC fs)
 | .lp f::fs=>Exit.then f (GC fs)
def kC(m:Md)(fs:List Frame)(K:KL)(w:World):Prop:=match m with
 | .c c=>WC P N c (GC P Q0 fs) K w
 | .o ops l=>TL P N ops (GC P Q0 fs) l K w
 | .e e=>NX N (GC P Q0 fs) e K w
def HS:Nat->Md->List Frame->KL->World->Prop
 |0=>fun m fs K w=>kC P N Q0 m fs K w
 |n+1=>fun m fs K w=>match m with
  | .c c=>match c with
   | .seq x y=>HS n (.c x) (.seq y::fs) K w
   | .region _ ops false=>HS n (.o ops ops.toList) fs K w
   | .block id x=>HS n (.c x) (.blk id::fs) K w
   | .skip=>HS n (.e .normal) fs K w
   | .exit id=>HS n (.e (.exit id)) fs K w
   | .ret=>HS n (.e .ret) fs K w
   |_=>False
  | .o ops l=>match l with
   |[]=>HS n (.e .normal) fs K w
   |o::rest=>match Fm N ops K o with
    | .yes=>match yq K o.op with
     |some v=>HS n (.o ops rest) fs (Bq K o.dst v) w
     |none=>False
    | .skip=>HS n (.o ops rest) fs (Bq K o.dst undef) w
    | .no=>False
  | .e e=>match fs with
   |[]=>False
   | .seq c::fs=>match e with
    | .normal=>HS n (.c c) fs K w
    | .ret=>HS n (.e .ret) fs K w
    | .exit id=>HS n (.e (.exit id)) fs K w
    |_=>False
   | .blk id::fs=>match e with
    | .normal=>HS n (.e .normal) fs K w
    | .ret=>HS n (.e .ret) fs K w
    | .exit id'=>bif Nat.beq id' id then HS n (.e .normal) fs K w else HS n (.e (.exit id')) fs K w
    |_=>False
   | .lp f::fs=>match e with
    | .normal=>∀a,Kn N K a->f a w
    | .ret=>HS n (.e .ret) fs K w
    | .exit id=>HS n (.e (.exit id)) fs K w
    |_=>False
end
section
variable {P:Program} {N:Nat} {Q0:Exit -> Act -> World -> Prop}
theorem HS.ok:∀(n:Nat) {m:Md} {fs:List Frame} {K:KL} {w:World},HS P N Q0 n m fs K w->kC P N Q0 m fs K w
 |0,_,_,_,_,h=>h
 |n+1,m,fs,K,w,h=>by
  cases m with
  |c c=>
   cases c with
   |seq x y=>exact WC.seq (HS.ok n h)
   |region id ops d=>
    cases d with
    |false=>
     have h2:TL P N ops (GC P Q0 fs) ops.toList K w:=HS.ok n h
     show WC P N (.region id ops false) (GC P Q0 fs) K w
     have:ops=ops.toList.toArray:=by simp
     rw [this];rw [this]at h2
     exact WC.region (by simpa using h2)
    |true=>exact h.elim
   |block id x=>exact WC.block (HS.ok n h)
   |skip=>exact WC.skip' (HS.ok n h)
   |exit id=>exact WC.exit' (HS.ok n h)
   |ret=>exact WC.ret' (HS.ok n h)
   |cond _ _ _=>exact h.elim
   |loop _=>exact h.elim
   |_=>exact h.elim
  |o ops l=>
   cases l with
   |nil=>exact TL.done (HS.ok n h)
   |cons o rest=>
    simp only [HS]at h
    split at h
    ·rename_i hg
     split at h
     ·rename_i v hv;exact Yl hg (NJ hv) (HS.ok n h)
     ·exact h.elim
    ·rename_i hg;exact Sk hg (HS.ok n h)
    ·exact h.elim
  |e e=>
   cases fs with
   |nil=>exact h.elim
   |cons f fs=>
    cases f with
    |seq c=>
     cases e with
     |normal=>exact NX.seq (HS.ok n h)
     |ret=>exact NX.then_r (HS.ok n h)
     |exit id=>exact NX.then_e (HS.ok n h)
     |_=>exact h.elim
    |blk id=>
     cases e with
     |normal=>exact NX.blk_n (HS.ok n h)
     |ret=>exact NX.blk_r (HS.ok n h)
     |exit id'=>
      simp only [HS]at h
      cases hb:Nat.beq id' id with
      |true=>
       rw [hb]at h
       obtain rfl:=Nat.eq_of_beq_eq_true hb
       exact NX.blk_hit (HS.ok n h)
      |false=>rw [hb]at h;exact NX.blk_miss hb (HS.ok n h)
     |_=>exact h.elim
    |lp f=>
     cases e with
     |normal=>exact NX.then_n h
     |ret=>exact NX.then_r (HS.ok n h)
     |exit id=>exact NX.then_e (HS.ok n h)
     |_=>exact h.elim
variable {K:KL} {w:World} {fs:List Frame} {ops:Array Oper}
theorem Rc(n:Nat){c:Code}(h:HS P N Q0 n (.c c) fs K w):WC P N c (GC P Q0 fs) K w:=HS.ok (m:=.c c) n h
theorem Ro(n:Nat){l:List Oper}(h:HS P N Q0 n (.o ops l) fs K w):TL P N ops (GC P Q0 fs) l K w:=HS.ok (m:=.o ops l) n h
theorem Re(n:Nat){e:Exit}(h:HS P N Q0 n (.e e) fs K w):NX N (GC P Q0 fs) e K w:=HS.ok (m:=.e e) n h
theorem AF{f:FuncId}{fn:Func}{c:Code}{vs:List Value}{w:World}{R:Ending->World->Prop}
 (hf:P.funcs[f]? =some fn) (hb:fn.body=some c) (hn:fn.ntmps=N) (h:WC P N c (GC P (bodyPost P fn R) []) (Ov 0 vs) w):Calls P f vs.toArray w R:=Wk hf hb hn h
theorem WC.loopD{c:Code}(I:Nat->Act->World->Prop)(m:Nat)(h0:∀a,Kn N K a->I m a w)
 (round:∀m a w,I m a w->c.wp P (GC P Q0 (.lp (fun a' w'=>∃m',m'<m∧I m' a' w')::fs)) a w):WC P N (.loop c) (GC P Q0 fs) K w:=WC.loop I m h0 round
theorem TL.cutD{l:List Oper}(k:Nat)(K':KL)(R:World->Prop)(h1:TL P N ops (GC P Q0 (.lp (fun a' w'=>Kn N K' a'∧R w')::fs)) (l.take k) K w)(h2:∀w',R w'->TL P N ops (GC P Q0 fs) (l.drop k) K' w'):TL P N ops (GC P Q0 fs) l K w:=TL.cut k K' R h1 h2
end
section
variable (P:Program) (N:Nat) (ops:Array Oper)
def XC(Q:Exit->Act->World->Prop):Nat->List Oper->KL->World->Prop
 |0=>fun l K w=>TL P N ops Q l K w
 |n+1=>fun l K w=>match l with
  |[]=>False
  |o::rest=>match Fm N ops K o with
   | .yes=>match yq K o.op with
    |some v=>XC Q n rest (Bq K o.dst v) w
    |none=>False
   | .skip=>XC Q n rest (Bq K o.dst undef) w
   | .no=>False
def Xa(w:World)(Qa:Act->Prop):Nat->List Oper->KL->Prop
 |0=>fun l K=>QL P N ops w Qa l K
 |n+1=>fun l K=>match l with
  |[]=>False
  |o::rest=>match Fm N ops K o with
   | .yes=>match yq K o.op with
    |some v=>Xa w Qa n rest (Bq K o.dst v)
    |none=>False
   | .skip=>Xa w Qa n rest (Bq K o.dst undef)
   | .no=>False
end
section
variable {P:Program} {N:Nat} {ops:Array Oper} {Q:Exit -> Act -> World -> Prop} {Qa:Act -> Prop}
theorem Tr:∀(n:Nat) {l:List Oper} {K:KL} {w:World},XC P N ops Q n l K w->TL P N ops Q l K w
 |0,_,_,_,h=>h
 |n+1,l,K,w,h=>by
  cases l with
  |nil=>exact h.elim
  |cons o rest=>
   simp only [XC]at h
   split at h
   ·rename_i hg
    split at h
    ·rename_i v hv;exact Yl hg (NJ hv) (Tr n h)
    ·exact h.elim
   ·rename_i hg;exact Sk hg (Tr n h)
   ·exact h.elim
theorem Qr{w:World}:∀(n:Nat) {l:List Oper} {K:KL},Xa P N ops w Qa n l K->QL P N ops w Qa l K
 |0,_,_,h=>h
 |n+1,l,K,h=>by
  cases l with
  |nil=>exact h.elim
  |cons o rest=>
   simp only [Xa]at h
   split at h
   ·rename_i hg
    split at h
    ·rename_i v hv;exact Qy hg (NJ hv) (Qr n h)
    ·exact h.elim
   ·rename_i hg;exact Qs hg (Qr n h)
   ·exact h.elim
end
end Go.Eng
namespace Go.Eng
open Go Go.RowKit
/-! ## Operations, read off at once -/
def YO(K:KL)(p:Op):Option (Nat×Nat×Nat×Nat):=match p with
 | .fieldAddr t x f=>match CL K x with
  |some (.pointer (some ⟨b,off,none⟩))=>some (t,f,b,off)
  |_=>none
 |_=>none
def Qx(K:KL)(p:Op):Option (Nat×Nat×Nat):=match p with
 | .load t x=>match CL K x with
  |some (.pointer (some ⟨b,off,none⟩))=>some (t,b,off)
  |_=>none
 |_=>none
def jP(K:KL)(p:Op):Option (Nat×Nat×Nat×Value):=match p with
 | .store t x y=>match CL K x with
  |some (.pointer (some ⟨b,off,none⟩))=>match CL K y with
   |some v=>some (t,b,off,v)
   |none=>none
  |_=>none
 |_=>none
def cN(K:KL)(p:Op):Option (Nat×Value):=match p with
 | .call ⟨.builtin .len,⟨[x]⟩,⟨[t]⟩⟩=>match CL K x with
  |some v=>some (t,v)
  |none=>none
 |_=>none
def TJ(K:KL)(p:Op):Option (Nat×Value×IntKind×Int):=match p with
 | .indexAddr t x i=>match CL K x with
  |some v=>match CL K i with
   |some (.int k m)=>some (t,v,k,m)
   |_=>none
  |none=>none
 |_=>none
def dE(K:KL)(p:Op):Option (Nat×List Value):=match p with
 | .call ⟨.value (.func f),xs,_⟩=>match Ng K xs.toList with
  |some vs=>some (f,vs)
  |none=>none
 |_=>none
section
variable {P:Program} {N:Nat} {K:KL} {o:Oper} {w:World}
theorem aY{t f b off:Nat}(h:YO K o.op=some (t,f,b,off)):∃x,o.op= .fieldAddr t x f∧CL K x=some (.pointer (some ⟨b,off,none⟩)):=by
 unfold YO at h
 split at h
 ·rename_i t' x f' ho
  split at h
  ·rename_i b' off' hx
   simp only [Option.some.injEq,Prod.mk.injEq]at h
   obtain⟨rfl,rfl,rfl,rfl⟩:=h
   exact⟨x,ho,hx⟩
  ·cases h
 ·cases h
theorem PY{t b off:Nat}(h:Qx K o.op=some (t,b,off)):∃x,o.op= .load t x∧CL K x=some (.pointer (some ⟨b,off,none⟩)):=by
 unfold Qx at h
 split at h
 ·rename_i t' x ho
  split at h
  ·rename_i b' off' hx
   simp only [Option.some.injEq,Prod.mk.injEq]at h
   obtain⟨rfl,rfl,rfl⟩:=h
   exact⟨x,ho,hx⟩
  ·cases h
 ·cases h
theorem Rr{t b off:Nat}{v:Value}(h:jP K o.op=some (t,b,off,v)):∃x y,o.op= .store t x y∧CL K x=some (.pointer (some ⟨b,off,none⟩))∧CL K y=some v:=by
 unfold jP at h
 split at h
 ·rename_i t' x y ho
  split at h
  ·rename_i b' off' hx
   split at h
   ·rename_i v' hy
    simp only [Option.some.injEq,Prod.mk.injEq]at h
    obtain⟨rfl,rfl,rfl,rfl⟩:=h
    exact⟨x,y,ho,hx,hy⟩
   ·cases h
  ·cases h
 ·cases h
theorem UB{t:Nat}{v:Value}(h:cN K o.op=some (t,v)):∃x,o.op= .call { callee:=.builtin .len,args:=#[x],argTypes:=#[t] }∧CL K x=some v:=by
 unfold cN at h
 split at h
 ·rename_i x t' ho
  split at h
  ·rename_i v' hx
   simp only [Option.some.injEq,Prod.mk.injEq]at h
   obtain⟨rfl,rfl⟩:=h
   exact⟨x,ho,hx⟩
  ·cases h
 ·cases h
theorem RS{t:Nat}{v:Value}{k:IntKind}{m:Int}(h:TJ K o.op=some (t,v,k,m)):∃x i,o.op= .indexAddr t x i∧CL K x=some v∧CL K i=some (.int k m):=by
 unfold TJ at h
 split at h
 ·rename_i t' x i ho
  split at h
  ·rename_i v' hx
   split at h
   ·rename_i k' m' hi
    simp only [Option.some.injEq,Prod.mk.injEq]at h
    obtain⟨rfl,rfl,rfl,rfl⟩:=h
    exact⟨x,i,ho,hx,hi⟩
   ·cases h
  ·cases h
 ·cases h
theorem WY{f:Nat}{vs:List Value}(h:dE K o.op=some (f,vs)):∃xs ts,o.op= .call { callee:=.value (.func f),args:=xs,argTypes:=ts }∧Ng K xs.toList=some vs:=by
 unfold dE at h
 split at h
 ·rename_i f' xs ts ho
  split at h
  ·rename_i vs' hx
   simp only [Option.some.injEq,Prod.mk.injEq]at h
   obtain⟨rfl,rfl⟩:=h
   exact⟨xs,ts,ho,hx⟩
  ·cases h
 ·cases h
theorem BX{t f b off fo:Nat}(h:YO K o.op=some (t,f,b,off))(hf:Ad P t f=some fo):EL P N K o w (.pointer (some ⟨b,off+fo,none⟩)):=by
 obtain⟨x,ho,hx⟩:=aY h;exact Oj ho hf hx
theorem DO{t b off:Nat}{us:List Value}{T:TypeId}{u:Value}(h:Qx K o.op=some (t,b,off))(ha:Ch P t=some false)(hb:Ae w b us T)(hu:us[off]? =some u):EL P N K o w u:=by
 obtain⟨x,ho,hx⟩:=PY h;exact PH off ho ha hx hb.cells (Nat.zero_add _).symm hu
theorem Dz(j:Nat){t b off o0:Nat}{us:List Value}{u:Value}(h:Qx K o.op=some (t,b,off))(ha:Ch P t=some false)(hcs:AO w b o0 us)(hj:off=o0+j)(hu:us[j]? =some u):EL P N K o w u:=by
 obtain⟨x,ho,hx⟩:=PY h;exact PH j ho ha hx hcs hj hu
theorem BL{t b:Nat}{us:List Value}{T:TypeId}(h:Qx K o.op=some (t,b,0))(ha:Ch P t=some true)(hb:Ae w b us T)(hn:BP P t=some us.length):EL P N K o w (.agg us.toArray):=by
 obtain⟨x,ho,hx⟩:=PY h;exact PG ho ha hx hb.cells hn
theorem DV{t b off:Nat}{us:List Value}(h:Qx K o.op=some (t,b,off))(ha:Ch P t=some true)(hc:AO w b off us)(hn:BP P t=some us.length):EL P N K o w (.agg us.toArray):=by
 obtain⟨x,ho,hx⟩:=PY h;exact PG ho ha hx hc hn
section
variable {α:Type} {c:Cy α} {xs:List α} {S:Nat -> Prop} {v:Value} {e:TypeId} {B:Nat}
theorem FJ{t:Nat}(h:cN K o.op=some (t,v))(hu:P.underlying t=some (.slice e))(hs:AD c w S xs v):EL P N K o w (.int .i64 xs.length):=by
 obtain⟨x,ho,hx⟩:=UB h;exact cG ho hu hx hs
theorem Fs{t:Nat}(h:cN K o.op=some (t,v))(hu:P.underlying t=some (.slice e))(hs:AC c w B S e xs v):EL P N K o w (.int .i64 xs.length):=by
 obtain⟨x,ho,hx⟩:=UB h;exact QI ho hu hx hs
theorem Jd{y:α}{t:Nat}{k:IntKind}{m:Int}(h:TJ K o.op=some (t,v,k,m))(hu:P.underlying t=some (.slice e))(hc:BP P e=some c.n)(hs:AD c w S xs v)(hg:AL xs m=some y):
 YE P N K o w (fun u=>∃b off us,u= .pointer (some ⟨b,off,none⟩)∧S b∧c.rep w S y us∧AO w b off us):=by
 obtain⟨x,i,ho,hx,hi⟩:=RS h;exact Va ho hu hc hx hi hs hg
theorem Jg{y:α}{t:Nat}{k:IntKind}{m:Int}(h:TJ K o.op=some (t,v,k,m))(hu:P.underlying t=some (.slice e))(hc:BP P e=some c.n)(hs:AC c w B S e xs v)(hg:AL xs m=some y):
 YE P N K o w (fun u=>∃g us,u= .pointer (some ⟨g,0+m.toNat*c.n,none⟩)∧v.ownBlock=some g∧c.rep w S y us∧AO w g (0+m.toNat*c.n) us):=by
 obtain⟨x,i,ho,hx,hi⟩:=RS h;exact ML ho hu hc hx hi hs hg
end
theorem CP{f:Nat}{vs:List Value}{R:Value->World->Prop}(h:dE K o.op=some (f,vs))(hf:Au P f=true)(hc:Calls P f vs.toArray w (Dn R)):LG P N K o w R:=by
 obtain⟨xs,ts,ho,hx⟩:=WY h;exact Ub ho hf hx hc
theorem IU{f:Nat}{vs:List Value}{v:Value}(h:dE K o.op=some (f,vs))(hf:Au P f=true)(hc:∀w',AR w w'->Calls P f vs.toArray w' (Dn fun u w''=>u=v∧AR w' w'')):kL P N K o w v:=by
 obtain⟨xs,ts,ho,hx⟩:=WY h;exact Uk ho hf hx hc
theorem BQ{t b off:Nat}{v:Value}{cur:List Value}{e:TypeId}(h:jP K o.op=some (t,b,off,v))(hb:Ae w b cur e)(hn:BP P t=some v.cells.toList.length)
 (h1:v.cells.toList.all Value.oneCell'=true) (hfit:Nat.ble (off+v.cells.toList.length) cur.length=true):
 LG P N K o w (fun _ w'=>Gk b w w'∧Ae w' b (cur.take off++v.cells.toList++cur.drop (off+v.cells.toList.length)) e):=by
 obtain⟨x,y,ho,hx,hy⟩:=Rr h;exact PK ho hx hy hb hn h1 hfit
/-! ## Worlds, in fewer words -/
theorem Et{w a b:World}(h:AR w a)(k:AR a b):AR w b∧a.heap.size<=b.heap.size:=⟨AR.trans h k,k.size⟩
theorem Bp{p:Nat->Prop}{w a b:World}(h:Ab p w a)(k:AR a b):Ab p w b∧a.heap.size<=b.heap.size:=⟨Ab.ext h k,k.size⟩
theorem Kn.sub{K':KL}{a:Act}(h:Kn N K a)(e:K'.map (fun p=>kl K p.1)=K'.map (fun p=>some p.2)):Kn N K' a:=by
 refine h.weaken ?_
 induction K' with
 |nil=>trivial
 |cons p K' ih=>
  simp only [List.map_cons,List.cons.injEq]at e
  exact⟨e.1,ih e.2⟩
theorem Pp{α:Type}{x y:α}(h:some x=some y):x=y:=Option.some.inj h
theorem Cc{α:Type}{x:α}{p:Prop}(h:none=some x):p:=by cases h
theorem Wc{α:Type}{c:Operand}{x y:Code}{t:Bool}{A B:Option α}{r:α}{Q:Exit->Act->World->Prop}(hc:CL K c=some (.bool t))(hF:(bif t then A else B)=some r)(ht:A=some r->WC P N x Q K w)(hf:B=some r->WC P N y Q K w):WC P N (.cond c x y) Q K w:=
 WC.cond hc (fun h=>ht (ND h hF)) (fun h=>hf (NC h hF))
def Tk(K:KL):List ResultVar->Option (List Value)
 |[]=>some []
 | .tmp t::rs=>match kl K t with
  |some v=>match Tk K rs with
   |some vs=>some (v::vs)
   |none=>none
  |none=>none
 | .cell _ _::_=>none
theorem PT:∀{rs:List ResultVar} {vs:List Value},Tk K rs=some vs->Ni P K w rs vs
 |[],vs,h=>by obtain rfl:=Option.some.inj h;trivial
 | .tmp t::rs,vs,h=>by
  unfold Tk at h
  split at h
  ·rename_i v h1
   split at h
   ·rename_i vs' h2
    obtain rfl:=Option.some.inj h
    exact⟨h1,PT h2⟩
   ·cases h
  ·cases h
 | .cell _ _::_,vs,h=>by cases h
theorem Ne{fn:Func}{rs vs R}(hr:fn.results=List.toArray rs)(ho:Tk K rs=some vs)(hR:R (.returned (EV vs)) w):NX N (bodyPost P fn R) .ret K w:=NX.end hr (PT ho) hR
theorem Nn{fn:Func}{rs vs R}(hr:fn.results=List.toArray rs)(ho:Tk K rs=some vs)(hR:R (.returned (EV vs)) w):NX N (bodyPost P fn R) .normal K w:=NX.end_n hr (PT ho) hR
end
end Go.Eng
namespace Go.Eng
open Go Go.RowKit
theorem Eu{w a c:World}{b:Nat}(h:AR w a)(hu:Gk b a c)(hb:w.heap.size<=b:=by omega):AR w c∧c.heap.size=a.heap.size:=⟨Below.trans h (Gk.below hu hb),hu.size⟩
theorem Lb{p:Nat->Prop}{w a c:World}{b:Nat}(h:Ab p w a)(hu:Gk b a c)(hb:p b∨w.heap.size<=b):Ab p w c∧c.heap.size=a.heap.size:=⟨Ab.upd h hu hb,hu.size⟩
/-! ## What keeps slices apart -/
abbrev Nb(v:Value)(b:Nat):Prop:=∀g,v.ownBlock=some g->g≠b
abbrev Ns(v:Value)(lo hi:Nat):Prop:=∀g,v.ownBlock=some g->g<lo∨hi<=g
abbrev No(v u:Value):Prop:=∀g q,v.ownBlock=some g->u.ownBlock=some q->g≠q
abbrev Bd(v:Value)(lo hi:Nat):Prop:=∀q,v.ownBlock=some q->lo<=q∧q<hi
section
variable {v v' u:Value} {b lo hi lo' hi':Nat} {w w':World}
theorem Nb.of(h:Bd v lo hi)(k:b<lo∨hi<=b:=by omega):Nb v b:=fun g hg=>by have:=h g hg;omega
theorem Ns.of(h:Bd v lo hi)(k:hi'<=lo∨hi<=lo':=by omega):Ns v lo' hi':=fun g hg=>by have:=h g hg;omega
theorem No.of(h:Bd v lo hi)(h':Bd u lo' hi')(k:hi<=lo'∨hi'<=lo:=by omega):No v u:=fun g q hg hq=>by have:=h g hg;have:=h' q hq;omega
theorem No.symm(h:No v u):No u v:=fun g q hg hq e=>h q g hq hg e.symm
theorem Gb(h:AQ w w' v v')(k:Nb v b)(hb:b<w.heap.size:=by omega):Nb v' b:=AQ.sepP (p:=fun g=>g≠b) h k (fun g hg=>by omega)
theorem Gs(h:AQ w w' v v')(k:Ns v lo hi)(hb:hi<=w.heap.size:=by omega):Ns v' lo hi:=AQ.sepP (p:=fun g=>g<lo∨hi<=g) h k (fun g hg=>by omega)
theorem Gn(h:AQ w w' v v')(k:No v u)(hb:Bd u lo hi)(hh:hi<=w.heap.size:=by omega):No v' u:=fun g q hg hq=>
 AQ.sepP (p:=fun g=>∀q,u.ownBlock=some q->g≠q) h (fun g hg q hq=>k g q hg hq) (fun g hg q hq=>by have:=hb q hq;omega) g hg q hq
theorem Ge(h:AR w w'){w2:World}(hg:AQ w' w2 v v')(k:Bd v lo hi)(hl:w.heap.size<=lo:=by omega):AR w w2∧w'.heap.size<=w2.heap.size:=⟨Below.trans h (AQ.low hg (fun g hg=>by have:=k g hg;omega) h.size),hg.1.size⟩
theorem Eg{α:Type}{c:Cy α}{B:Nat}{S:Nat->Prop}{e:TypeId}{zs:List α}(h:AQ w w' v v')(ho:AC c w' B S e zs v')(k:Bd v lo hi)(hl:lo<=w.heap.size:=by omega)(hh:hi<=w'.heap.size:=by omega):Bd v' lo w'.heap.size:=AQ.bd h ho k hl hh
end
end Go.Eng
namespace Go.Eng
open Go Go.RowKit
theorem AD.oh{α:Type}{c:Cy α}{w w':World}{lo H:Nat}{xs:List α}{v:Value}(h:AD c w (Iv lo H) xs v)(hH:H<=w.heap.size)(he:AR w w'):AD c w' (Iv lo H) xs v:=h.old he hH
theorem AD.ph{α:Type}{c:Cy α}{w w':World}{H:Nat}{xs:List α}{v:Value}(h:AD c w (Iv 0 H) xs v)(hH:H<=w.heap.size)(he:AR w w'):AD c w' (Iv 0 w'.heap.size) xs v:=(h.old he hH).wide (Nat.le_refl _) (Nat.le_trans hH he.size)
end Go.Eng
namespace Go.Eng
open Go Go.RowKit
/-! ## Regions whose order is drawn, with guards -/
section
variable {P:Program} {N:Nat} {ops:Array Oper} {Q:Exit -> Act -> World -> Prop} {n:Nat} {K:KL} {w w0:World} {f:Nat} {listed:Array Bool} {p:Nat -> Prop}
theorem NS{o:Oper}{g:Gd}(h:Fm N ops K o=g)(hg:g≠ .no):∀t,o.dst=some t->Nat.blt t N=true:=Eb.h (Ks h hg)
theorem lV{o:Oper}{v:Value}(i:Nat)(hh:EU ops n=true)(hi:ops[i]? =some o)(hc:(Nat.blt i n&&Region.free .any ops listed i&&(Region.ready .any ops listed).contains i)=true)(h0:Fm N ops K o= .yes)
 (h:EL P N K o w0 v) (k:HL P N ops n (noPan Q) w0 f (listed.setIfInBounds i true) (Bq K o.dst v) w):HL P N ops n (noPan Q) w0 (f+1) listed K w:=by
 intro inv hx a hK
 obtain⟨hs,hn,ht⟩:=EU.spec hh
 simp only [Bool.and_eq_true]at hc
 have hin:i<n:=by have h2:=hc.1.1;simp [Nat.blt]at h2;omega
 have hr:i∈Region.ready .any ops listed:=by simpa using hc.2
 refine DJ.first hi hin hn (Region.noSelect_spec hs) ht (fun c a w h=>h.elim) f listed a w inv (Region.free_spec hi hc.1.2) hr ?_ hx (k (inv.set hr hin) hx _ (hK.put (NS h0 (by simp))))
 exact .inl ⟨Fx h0 hK,fun w' hw'=>h a hK w' hw'⟩
theorem pA{o:Oper}{Ψ:Value->Prop}(i:Nat)(hh:EU ops n=true)(hi:ops[i]? =some o)(hc:(Nat.blt i n&&Region.free .any ops listed i&&(Region.ready .any ops listed).contains i)=true)(h0:Fm N ops K o= .yes)
 (h:YE P N K o w0 Ψ) (k:∀v,Ψ v->HL P N ops n (noPan Q) w0 f (listed.setIfInBounds i true) (Bq K o.dst v) w):HL P N ops n (noPan Q) w0 (f+1) listed K w:=by
 obtain⟨v,h1,h2⟩:=h;exact lV i hh hi hc h0 h1 (k v h2)
theorem uV{o:Oper}(i:Nat)(hh:EU ops n=true)(hi:ops[i]? =some o)(hc:(Nat.blt i n&&Region.free .any ops listed i&&(Region.ready .any ops listed).contains i)=true)(h0:Fm N ops K o= .skip)
 (k:HL P N ops n (noPan Q) w0 f (listed.setIfInBounds i true) (Bq K o.dst undef) w):HL P N ops n (noPan Q) w0 (f+1) listed K w:=by
 intro inv hx a hK
 obtain⟨hs,hn,ht⟩:=EU.spec hh
 simp only [Bool.and_eq_true]at hc
 have hin:i<n:=by have h2:=hc.1.1;simp [Nat.blt]at h2;omega
 have hr:i∈Region.ready .any ops listed:=by simpa using hc.2
 refine DJ.first hi hin hn (Region.noSelect_spec hs) ht (fun c a w h=>h.elim) f listed a w inv (Region.free_spec hi hc.1.2) hr ?_ hx (k (inv.set hr hin) hx _ (hK.put (NS h0 (by simp))))
 exact .inr ⟨OI h0 hK,rfl⟩
theorem sB{o:Oper}{R:Value->World->Prop}(i:Nat)(hi:ops[i]? =some o)(hin:Nat.blt i n=true)(hr:Region.ready .any ops listed=[i])(h0:Fm N ops K o= .yes)
 (h:LG P N K o w R) (k:∀v w',R v w'->AR w0 w'∧HL P N ops n (noPan Q) w0 f (listed.setIfInBounds i true) (Bq K o.dst v) w'):HL P N ops n (noPan Q) w0 (f+1) listed K w:=by
 intro inv hx a hK
 have hin':i<n:=by have h2:=hin;simp [Nat.blt]at h2;omega
 have hri:i∈Region.ready .any ops listed:=by rw [hr];simp
 refine⟨fun h0=>(by rw [h0]at hr;cases hr),fun j hj=>?_⟩
 rw [hr]at hj
 have hji:j=i:=by simpa using hj
 subst hji
 unfold wpOp
 simp only [hi]
 rw [if_pos (Fx h0 hK)]
 refine .inl (h a hK _ _ fun u w' hR=>?_)
 obtain⟨h1,h2⟩:=k u w' hR
 exact⟨fun _=>h1,h2 (inv.set hri hin') h1 _ (hK.put (NS h0 (by simp)))⟩
theorem sU{o:Oper}{R:Value->World->Prop}(i:Nat)(hi:ops[i]? =some o)(hin:Nat.blt i n=true)(hr:(Region.ready .any ops listed).contains i=true)(h0:Fm N ops K o= .yes)
 (h:LG P N K o w R) (k:∀v w',R v w'->AR w0 w'∧HL P N ops n (noPan Q) w0 f (listed.setIfInBounds i true) (Bq K o.dst v) w'):HB P N ops n (noPan Q) w0 f listed K w i:=by
 intro inv hx a hK
 have hin':i<n:=by have h2:=hin;simp [Nat.blt]at h2;omega
 have hri:i∈Region.ready .any ops listed:=by simpa using hr
 unfold wpOp
 simp only [hi]
 rw [if_pos (Fx h0 hK)]
 refine .inl (h a hK _ _ fun u w' hR=>?_)
 obtain⟨h1,h2⟩:=k u w' hR
 exact⟨fun _=>h1,h2 (inv.set hri hin') h1 _ (hK.put (NS h0 (by simp)))⟩
theorem WC.heldD{id:Nat}{l:List Oper}(n:Nat)(hm:P.follows .mixedOrders=true)(hh:EU l.toArray n=true)
 (h:∀w',AR w w'->EU l.toArray n=true->HL P N l.toArray n (noPan Q) w' l.length (Array.replicate l.length false) K w'):WC P N (.region id l.toArray true) Q K w:=WC.held n hm fun w' hx=>h w' hx hh
def Zz(ops:Array Oper)(n:Nat):List Nat->Array Bool->Bool
 |[],_=>true
 |i::is,listed=>Nat.blt i n&&Region.free .any ops listed i&&(Region.ready .any ops listed).contains i&&Zz ops n is (listed.setIfInBounds i true)
end
section
variable (P:Program) (N:Nat) (ops:Array Oper) (n:Nat) (Q:Exit -> Act -> World -> Prop) (w0:World)
def Uf:List Nat->Nat->Array Bool->KL->World->Prop
 |[]=>fun f listed K w=>HL P N ops n (noPan Q) w0 f listed K w
 |i::is=>fun f listed K w=>match f with
  |0=>False
  |f+1=>match ops[i]? with
   |none=>False
   |some o=>match Fm N ops K o with
    | .yes=>match yq K o.op with
     |some v=>Uf is f (listed.setIfInBounds i true) (Bq K o.dst v) w
     |none=>False
    | .skip=>Uf is f (listed.setIfInBounds i true) (Bq K o.dst undef) w
    | .no=>False
end
section
variable {P:Program} {N:Nat} {ops:Array Oper} {Q:Exit -> Act -> World -> Prop} {n:Nat} {w w0:World}
theorem Hr(hh:EU ops n=true):∀(is:List Nat) {f:Nat} {listed:Array Bool} {K:KL},Zz ops n is listed=true->Uf P N ops n Q w0 is f listed K w->HL P N ops n (noPan Q) w0 f listed K w
 |[],_,_,_,_,h=>h
 |i::is,0,listed,K,_,h=>h.elim
 |i::is,f+1,listed,K,hc,h=>by
  simp only [Zz,Bool.and_eq_true]at hc
  have hc':(Nat.blt i n&&Region.free .any ops listed i&&(Region.ready .any ops listed).contains i)=true:=by simp only [Bool.and_eq_true];exact hc.1
  simp only [Uf]at h
  split at h
  ·exact h.elim
  ·rename_i o hi
   split at h
   ·rename_i hg
    split at h
    ·rename_i v hv;exact lV i hh hi hc' hg (NJ hv) (Hr hh is hc.2 h)
    ·exact h.elim
   ·rename_i hg;exact uV i hh hi hc' hg (Hr hh is hc.2 h)
   ·exact h.elim
end
end Go.Eng
namespace Go.Eng
open Go Go.RowKit
/-! ## Structs of plain fields, compared -/
def Yd(u v:Value):Option Bool:=match u with
 | .int k a=>match v with
  | .int k' b=>bif decide (k=k')then some (a==b)else none
  |_=>none
 | .bool a=>match v with
  | .bool b=>some (a==b)
  |_=>none
 | .string a=>match v with
  | .string b=>some (a.toList==b.toList)
  |_=>none
 |_=>none
def Ol:List Value->List Value->Option Bool
 |[],[]=>some true
 |u::us,v::vs=>match us with
  |[]=>match vs with
   |[]=>Yd u v
   |_=>none
  |_::_=>match Yd u v with
   |some r=>match Ol us vs with
    |some q=>some (r&&q)
    |none=>none
   |none=>none
 |_,_=>none
def kI(P:Program):List Field->Nat->Bool
 |[],_=>true
 |f::fs,i=>f.name != "_" &&Nat.beq f.offset i&&(match P.underlying f.type with
  |some (.int _)=>true
  |some .bool=>true
  |some .string=>true
  |_=>false)&&kI P fs (i+1)
def XR(P:Program)(t:Nat)(n:Nat):Bool:=match P.underlying t with
 |some (.struct fs)=>kI P fs.toList 0&&Nat.beq fs.size n&& !P.stoodInHeld t&& !P.eqGuardType P.depth t
 |_=>false
section
variable {P:Program} {N:Nat} {K:KL} {o:Oper} {w:World}
theorem YN{d t:Nat}{u v:Value}{r:Bool}(h:Yd u v=some r)(ht:(match P.underlying t with
 |some (.int _)=>true
 |some .bool=>true
 |some .string=>true
 |_=>false)=true) (hty:∀k,P.underlying t=some (.int k)->∃k' a,u= .int k' a) (htb:P.underlying t=some .bool->∃a,u= .bool a) (hts:P.underlying t=some .string->∃a,u= .string a):
 (Op.equalIn (d+1) t u v).run P w= .ok r w:=by
 split at ht
 ·rename_i k hu
  obtain⟨k',a,rfl⟩:=hty k hu
  unfold Yd at h
  cases v<;>simp only [reduceCtorEq]at h
  rename_i k2 b
  by_cases hk:k'=k2
  ·subst hk
   rw [decide_eq_true rfl,cond_true]at h
   obtain rfl:=Option.some.inj h
   exact run_equalIn_int w d t k' k a b hu
  ·rw [decide_eq_false hk]at h;cases h
 ·rename_i hu
  obtain⟨a,rfl⟩:=htb hu
  unfold Yd at h
  cases v<;>simp only [reduceCtorEq]at h
  obtain rfl:=Option.some.inj h
  exact run_equalIn_bool' w d t _ _ hu
 ·rename_i hu
  obtain⟨a,rfl⟩:=hts hu
  unfold Yd at h
  cases v<;>simp only [reduceCtorEq]at h
  obtain rfl:=Option.some.inj h
  exact run_equalIn_string w d t _ _ hu
 ·cases ht
def cZ(P:Program):List Field->List Value->Bool
 |[],[]=>true
 |f::fs,u::us=>(match P.underlying f.type with
  |some (.int _)=>match u with
   | .int _ _=>true
   |_=>false
  |some .bool=>match u with
   | .bool _=>true
   |_=>false
  |some .string=>match u with
   | .string _=>true
   |_=>false
  |_=>false)&&cZ P fs us
 |_,_=>false
theorem In{d:Nat}{xs ys:Array Value}:∀(fs:List Field) (i:Nat) (us vs:List Value) (r:Bool),kI P fs i=true->cZ P fs us=true->xs.toList.drop i=us->ys.toList.drop i=vs->Ol us vs=some r->(Op.eqFields (d+1) xs ys fs).run P w= .ok r w
 |[],i,us,vs,r,_,h2,_,_,h5=>by
  cases us with
  |nil=>
   cases vs with
   |nil=>simp [Ol]at h5;subst h5;simp [Op.eqFields]
   |cons _ _=>simp [Ol]at h5
  |cons _ _=>simp [cZ]at h2
 |f::fs,i,us,vs,r,h1,h2,h3,h4,h5=>by
  cases us with
  |nil=>simp [cZ]at h2
  |cons u us=>
   cases vs with
   |nil=>cases us<;>simp [Ol]at h5
   |cons v vs=>
    simp only [kI,Bool.and_eq_true,bne_iff_ne,ne_eq]at h1
    obtain⟨⟨⟨hn,ho⟩,ht⟩,h1⟩:=h1
    have ho:f.offset=i:=Nat.eq_of_beq_eq_true ho
    simp only [cZ,Bool.and_eq_true]at h2
    obtain⟨hc,h2⟩:=h2
    have hxu:xs[f.offset]? =some u:=by
     rw [ho,←Array.getElem?_toList]
     have:=congrArg (fun l:List Value=>l[0]?) h3
     simpa using this
    have hyv:ys[f.offset]? =some v:=by
     rw [ho,←Array.getElem?_toList]
     have:=congrArg (fun l:List Value=>l[0]?) h4
     simpa using this
    have ha:Ch P f.type=some false:=by
     unfold Ch
     split at ht<;>first|(rename_i hu;rw [hu])|cases ht
    have e3:xs.toList.drop (i+1)=us:=by
     rw [←List.drop_drop,h3];rfl
    have e4:ys.toList.drop (i+1)=vs:=by
     rw [←List.drop_drop,h4];rfl
    have key:∀r0,Yd u v=some r0->(Op.equalIn (d+1) f.type u v).run P w= .ok r0 w:=by
     intro r0 hr0
     refine YN hr0 ht ?_ ?_ ?_
     ·intro k hu;rw [hu]at hc;cases u<;>simp at hc;exact⟨_,_,rfl⟩
     ·intro hu;rw [hu]at hc;cases u<;>simp at hc;exact⟨_,rfl⟩
     ·intro hu;rw [hu]at hc;cases u<;>simp at hc;exact⟨_,rfl⟩
    have step:∀r0 q,Yd u v=some r0->(Op.eqFields (d+1) xs ys fs).run P w= .ok q w->(Op.eqFields (d+1) xs ys (f::fs)).run P w= .ok (r0&&q) w:=by
     intro r0 q hr0 hq
     have hk:=key r0 hr0
     simp only [Op.eqFields]
     rw [if_pos hn]
     simp only [Sem.run_bind,part,Kr ha,Result.andThen_ok,Bool.false_eq_true,if_false,hxu,hyv,Sem.run_pure,hk]
     cases r0
     ·simp
     ·simp [hq]
    cases us with
    |nil=>
     cases vs with
     |nil=>
      simp only [Ol]at h5
      have:=step r true h5 (In fs (i+1) [] [] true h1 h2 e3 e4 rfl)
      simpa using this
     |cons _ _=>simp [Ol]at h5
    |cons u2 us2=>
     simp only [Ol]at h5
     split at h5
     ·rename_i r0 hr0
      split at h5
      ·rename_i q hq
       obtain rfl:=Option.some.inj h5
       exact step r0 q hr0 (In fs (i+1) _ _ q h1 h2 e3 e4 hq)
      ·cases h5
     ·cases h5
def YJ(P:Program)(t:Nat)(us:List Value):Bool:=match P.underlying t with
 |some (.struct fs)=>cZ P fs.toList us
 |_=>false
theorem Xf{t n:Nat}{us vs:List Value}{r:Bool}(hB:XR P t n=true)(hC:YJ P t us=true)(h:Ol us vs=some r):
 (Op.equalIn 10000 t (.agg us.toArray) (.agg vs.toArray)).run P w= .ok r w∧P.eqGuardType P.depth t=false:=by
 unfold XR at hB
 unfold YJ at hC
 split at hB
 ·rename_i fs hu
  rw [hu]at hC
  simp only [Bool.and_eq_true,Bool.not_eq_true']at hB
  obtain⟨⟨⟨h1,h2⟩,h3⟩,h4⟩:=hB
  have hf:P.fieldsOf t=fs:=by unfold Program.fieldsOf;rw [hu]
  refine⟨?_,h4⟩
  rw [show(10000:Nat)=9998+1+1 from rfl,run_equalIn_struct w _ t _ _ (by rw [hf];exact hu) h3,hf]
  exact In fs.toList 0 us vs r h1 hC (by simp) (by simp) h
 ·cases hB
theorem jV{t x y u n us vs r}(ho:o.op= .binOp .neq t x y u)(hx:CL K x=some (.agg (List.toArray us)))(hy:CL K y=some (.agg (List.toArray vs)))(hB:XR P t n=true)(hC:YJ P t us=true)(h:Ol us vs=some r):EL P N K o w (.bool (!r)):=by
 intro a hK w' _
 obtain⟨h1,h2⟩:=Xf (w:=w') hB hC h
 have h3:=run_eqGuard_agg (P:=P) w' .neq t x y us.toArray vs.toArray h2
 have h4:(binOp .neq t (.agg us.toArray) (.agg vs.toArray)).run P w'= .ok (.bool (!r)) w':=by rw [run_neq_struct,h1];rfl
 simp only [execOp,ho,hK.ev hx,hK.ev hy,Sem.run_bind,h3,Result.andThen_ok,h4,Sem.run_pure]
end
end Go.Eng
namespace Go.Eng
open Go Go.RowKit
/-! ## Slices of slices of the call's own, each apart from the others -/
theorem AC.slp{α:Type}{c:Cy α}{w:World}{B:Nat}{S S':Nat->Prop}{e:TypeId}{xs:List α}{v:Value}[DU c](h:AC c w B S e xs v)(hb:∀g,v.ownBlock=some g->S' g):AD c w S' xs v:=by
 obtain⟨cs,h0,h3⟩:=h
 have h1:=h0
 obtain⟨hl,⟨rfl,hn⟩|⟨g,cap,cur,rfl,_,hh,h5,h6,h7,h8⟩⟩:=h1
 ·have:xs=[]:=List.eq_nil_of_length_eq_zero hn
  subst this;exact AD.nil _ _ _
 ·refine⟨some ⟨g,0,none⟩,cap,rfl,⟨h5,fun h=>by cases h⟩,by simpa [maxLen] using h6,fun hpos=>⟨g,0,rfl,hb g rfl,fun i x hx=>⟨_,DU.any (h3 i x hx),fun j u hu=>?_⟩⟩⟩
  have hjn:j<c.n:=by
   have:=(List.getElem?_eq_some_iff.1 hu).1
   simp [BJ]at this;omega
  rw [Bs hjn]at hu
  have:=h0.cells (g:=g) rfl _ _ hu
  rw [Ct]at this
  rw [show 0+i*c.n+j=0+(i*c.n+j) by omega];exact⟨this,by simp [World.frozen?,hh]⟩
def own2{α:Type}(c:Cy α)(w:World)(B hi:Nat)(e1 e2:TypeId)(xss:List (List α))(v:Value)(vs:List Value):Prop:=
 w.ownsRow B e1 1 v xss.length vs∧(∀(i:Nat) (xs:List α) (u:Value),xss[i]? =some xs->vs[i]? =some u->AC c w B (Iv 0 0) e2 xs u∧Bd u B hi∧No v u)∧(∀(i j:Nat) (u u':Value),i≠j->vs[i]? =some u->vs[j]? =some u'->No u u')
def UT{α:Type}(c:Cy α)(w:World)(B hi:Nat)(e1 e2:TypeId)(xss:List (List α))(v:Value)(vs:List Value)(k:Nat)(u0:Value):Prop:=
 w.ownsRow B e1 1 v xss.length vs∧(∀(i:Nat) (xs:List α) (u:Value),i≠k->xss[i]? =some xs->vs[i]? =some u->AC c w B (Iv 0 0) e2 xs u∧Bd u B hi∧No v u∧No u0 u)∧(∀(i j:Nat) (u u':Value),i≠k->j≠k->i≠j->vs[i]? =some u->vs[j]? =some u'->No u u')∧No v u0∧Bd u0 B hi
theorem ownsRow.keep{w w':World}{B n:Nat}{e:TypeId}{v:Value}{m:Nat}{cs:List Value}(h:w.ownsRow B e n v m cs)(hg:∀g,v.ownBlock=some g->w'.heap[g]? =w.heap[g]?):w'.ownsRow B e n v m cs:=by
 obtain⟨h1,h2⟩:=h
 refine⟨h1,?_⟩
 rcases h2 with h2|⟨g,cap,cur,rfl,hb,hh,rest⟩
 ·exact .inl h2
 ·exact .inr ⟨g,cap,cur,rfl,hb,(hg g rfl).trans hh,rest⟩
section
variable {α:Type} {c:Cy α} [DU c] {w w':World} {B hi:Nat} {e1 e2:TypeId} {xss:List (List α)} {v:Value} {vs:List Value}
theorem own2.keep(h:own2 c w B hi e1 e2 xss v vs)(h1:∀g,v.ownBlock=some g->w'.heap[g]? =w.heap[g]?)(h2:∀k,B<=k->k<hi->w'.heap[k]? =w.heap[k]?):own2 c w' B hi e1 e2 xss v vs:=by
 obtain⟨a,b,d⟩:=h
 refine⟨ownsRow.keep a h1,fun i xs u hx hu=>?_,d⟩
 obtain⟨p,q,r⟩:=b i xs u hx hu
 exact⟨p.keep (fun g hg=>h2 g (q g hg).1 (q g hg).2) (fun _ h=>h) (fun k h=>absurd h.2 (Nat.not_lt_zero k)),q,r⟩
theorem own2.blk(h:own2 c w B hi e1 e2 xss v vs):Bd v B w.heap.size:=h.1.lt
theorem own2.ext(h:own2 c w B hi e1 e2 xss v vs)(he:AR w w')(hle:hi<=w.heap.size):own2 c w' B hi e1 e2 xss v vs:=
 h.keep (fun g hg=>he.block g (h.blk g hg).2) (fun k _ h=>he.block k (by omega))
theorem own2.upd{b:Nat}(h:own2 c w B hi e1 e2 xss v vs)(hu:Gk b w w')(hne:Nb v b)(hb:b<B∨hi<=b:=by omega):own2 c w' B hi e1 e2 xss v vs:=
 h.keep (fun g hg=>hu.block g (hne g hg)) (fun k h1 h2=>hu.block k (by omega))
theorem own2.wide{hi':Nat}(h:own2 c w B hi e1 e2 xss v vs)(hle:hi<=hi':=by omega):own2 c w B hi' e1 e2 xss v vs:=by
 obtain⟨a,b,d⟩:=h
 refine⟨a,fun i xs u hx hu=>?_,d⟩
 obtain⟨p,q,r⟩:=b i xs u hx hu
 exact⟨p,fun g hg=>by have:=q g hg;omega,r⟩
theorem own2.but{p:Nat->Prop}(h:own2 c w B hi e1 e2 xss v vs)(hb:Ab p w w')(hne:∀k,p k->∀g,v.ownBlock=some g->k≠g)(hle:hi<=w.heap.size)(hs:∀k,p k->k<B∨hi<=k):own2 c w' B hi e1 e2 xss v vs:=
 h.keep (fun g hg=>hb.block g (h.blk g hg).2 (fun e=>hne g e g hg rfl)) (fun k h1 h2=>hb.block k (by omega) (fun e=>by have:=hs k e;omega))
theorem AQ.own2{t t':Value}(hg:AQ w w' t t')(h:own2 c w B hi e1 e2 xss v vs)(hne:No t v)(hle:hi<=w.heap.size)(hs:∀g,t.ownBlock=some g->g<B∨hi<=g):own2 c w' B hi e1 e2 xss v vs:=
 h.keep (fun g hv=>hg.1.block g (h.blk g hv).2 (fun e=>hne g g e.symm hv rfl)) (fun k h1 h2=>hg.1.block k (by omega) (fun e=>by have:=hs k e.symm;omega))
theorem ZJ{cs:List Value}{i:Nat}{u:Value}(h:cs[i]? =some u):BJ cs 1 i=[u]:=by
 apply List.ext_getElem?
 intro q
 by_cases hq:q<1
 ·obtain rfl:q=0:=by omega
  rw [Bs hq];simpa using h
 ·rw [List.getElem?_eq_none (by simp [BJ];omega),List.getElem?_eq_none (by simp;omega)]
theorem own2.r(h:own2 c w B hi e1 e2 xss v vs):AC (FT c) w B (SX B hi v) e1 xss v:=by
 obtain⟨a,b,d⟩:=h
 refine⟨vs,a,fun i x hx=>?_⟩
 have hi':i<vs.length:=by
  have:=(List.getElem?_eq_some_iff.1 hx).1
  rw [a.1];omega
 obtain⟨p,q,r⟩:=b i x _ hx (List.getElem?_eq_getElem hi')
 have e:BJ vs (FT c).n i=[vs[i]]:=ZJ (List.getElem?_eq_getElem hi')
 rw [e]
 exact⟨_,rfl,p.slp fun g hg=>⟨(q g hg).1,(q g hg).2,fun e=>r g g e hg rfl⟩⟩
theorem own2.sub{m:Int}{xs:List α}{u:Value}(h:own2 c w B hi e1 e2 xss v vs)(hy:AL xss m=some xs)(hu:vs[m.toNat]? =some u):AC c w B (Iv 0 0) e2 xs u∧Bd u B hi∧No v u:=h.2.1 _ _ _ (EM hy).2.2 hu
theorem own2.at{m:Int}{xs:List α}{g:Nat}{us:List Value}(h:own2 c w B hi e1 e2 xss v vs)(hy:AL xss m=some xs)(hg:v.ownBlock=some g)(hl:us.length=1)(hcl:AO w g (0+m.toNat*(FT c).n) us):∃u,us=[u]∧vs[m.toNat]? =some u:=by
 obtain⟨u,rfl⟩:=List.length_eq_one_iff.1 hl
 refine⟨u,rfl,?_⟩
 have hlt:m.toNat<vs.length:=by
  have:=(List.getElem?_eq_some_iff.1 (EM hy).2.2).1
  rw [h.1.1];omega
 have h1:=h.1.cells hg m.toNat _ (List.getElem?_eq_getElem hlt)
 have h2:=(hcl 0 u rfl).1
 rw [Ct]at h1
 have e:0+m.toNat*(FT c).n+0=0+m.toNat:=by show 0+m.toNat*1+0=0+m.toNat;omega
 rw [e,h1]at h2
 rw [List.getElem?_eq_getElem hlt];exact h2
theorem own2.grew{m:Nat}{u u':Value}(h:own2 c w B hi e1 e2 xss v vs)(hu:vs[m]? =some u)(hbu:Bd u B hi)(hvu:No v u)(hg:AQ w w' u u')(hle:hi<=w.heap.size)(hB:B<=w.heap.size)(hlt:∀g,u'.ownBlock=some g->g<w'.heap.size):UT c w' B w'.heap.size e1 e2 xss v vs m u':=by
 obtain⟨a,b,d⟩:=h
 have hsz:=hg.1.size
 have hav:∀g,v.ownBlock=some g->w'.heap[g]? =w.heap[g]?:=fun g hv=>hg.1.block g (a.lt g hv).2 (fun e=>hvu g g hv e.symm rfl)
 refine⟨ownsRow.keep a hav,fun i xs t hi' hx ht=>?_,fun i j t t' _ _ hij ht ht'=>d i j t t' hij ht ht',?_,?_⟩
 ·obtain⟨p,q,r⟩:=b i xs t hx ht
  have hn:No u t:=d m i u t (fun e=>hi' e.symm) hu ht
  refine⟨p.keep (fun g hg2=>hg.1.block g (by have:=q g hg2;omega) (fun e=>hn g g e.symm hg2 rfl)) (fun _ h=>h) (fun k h=>absurd h.2 (Nat.not_lt_zero k)),fun g hg2=>by have:=q g hg2;omega,r,fun g q2 hg2 hq2=>?_⟩
  rcases hg.2 g hg2 with h1|h1
  ·exact hn g q2 h1 hq2
  ·have:=q q2 hq2;omega
 ·intro g q2 hg2 hq2
  rcases hg.2 q2 hq2 with h1|h1
  ·exact hvu g q2 hg2 h1
  ·have:=a.lt g hg2;omega
 ·intro g hg2
  have:=hlt g hg2
  rcases hg.2 g hg2 with h1|h1
  ·have:=hbu g h1;omega
  ·omega
end
section
variable {P:Program} {N:Nat} {α:Type} {c:Cy α} [DU c] {w:World} {B hi:Nat} {e1 e2:TypeId} {xss:List (List α)} {v:Value} {vs:List Value} {o:Oper} {K:KL}
theorem mF{t g m off:Nat}{u:Value}{zs:List α}(h:jP K o.op=some (t,g,off,u))(hoff:off=0+m*(FT c).n)(hg:v.ownBlock=some g)(hn:BP P t=some 1)(hh:UT c w B hi e1 e2 xss v vs m u)(ho:AC c w B (Iv 0 0) e2 zs u)(hm:m<xss.length):
 LG P N K o w (fun _ w'=>Gk g w w'∧own2 c w' B hi e1 e2 (xss.set m zs) v (vs.set m u)):=by
 obtain⟨x,y,hop,hx,hy⟩:=Rr h
 obtain⟨a,b,d,hv,hbu⟩:=hh
 have hu1:u.cells= #[u]:=ho.cells
 have hu2:u.oneCell'=true:=ho.one
 have a':=a
 obtain⟨hl,⟨rfl,hn0⟩|⟨g',cap,cur,rfl,hb,hhp,h5,h6,h7,h8⟩⟩:=a'
 ·omega
 simp [Value.ownBlock]at hg
 subst hg
 obtain⟨ti,hi1,hsz⟩:=Option.map_eq_some_iff.1 hn
 have hoff':off=m:=by rw [hoff];show 0+m*1=m;omega
 subst hoff'
 have hlen:off<cur.size:=by rw [h7];omega
 have hst:=run_storeCells_at P g' off e1 [u] 0 cur w hhp (by simp;omega) (by simpa using hu2)
 simp only [Nat.add_zero]at hst
 intro ac hK Kt Q hk
 have hr:(execOp ac.eval o).run P w= .ok .skip (w.setRow g' (cur.toList.set off u).toArray):=by
  have e:List.take off cur.toList++[u]++List.drop (off+1) cur.toList=cur.toList.set off u:=by
   rw [List.set_eq_take_append_cons_drop,if_pos (by simpa using hlen)];simp
  simp [execOp,hop,hK.ev hx,hK.ev hy,Instr.storeAt,Instr.sureAddr,storeVar,Sem.run_bind,sizeOf,typeInfo,hi1,hsz,hu1]at hst ⊢
  rw [hst]
  simp at e
  simp [e]
 unfold Oper.wp
 rw [hr]
 have hU:=Gk.setRow w g' (cur.toList.set off u).toArray
 refine hk _ _ ⟨hU,?_,?_,?_⟩
 ·refine⟨by rw [List.length_set,List.length_set];exact hl,.inr ⟨g',cap,_,by simp,hb,setRow_heap w g' cur _ e1 _ hhp,by simpa using h5,h6,by simpa using h7,?_⟩⟩
  rw [List.length_set]
  simp only [List.toList_toArray,Nat.mul_one]
  rw [List.take_set]
  congr 1
  simpa using h8
 ·intro i xs t hx2 ht
  rcases PQ hx2 with ⟨rfl,rfl⟩|⟨hne,hx3⟩
  ·have:t=u:=by
    rw [List.getElem?_set_self (by rw [hl];omega)]at ht
    exact(Option.some.inj ht).symm
   subst this
   refine⟨ho.keep (fun q hq=>setRow_other _ _ _ _ (fun e=>?_)) (fun _ h=>h) (fun k h=>absurd h.2 (Nat.not_lt_zero k)),hbu,hv⟩
   subst e
   exact hv q q rfl hq rfl
  ·rw [List.getElem?_set_ne hne]at ht
   obtain⟨p,q,r,s⟩:=b i xs t (fun e=>hne e.symm) hx3 ht
   exact⟨p.keep (fun g2 hg2=>setRow_other _ _ _ _ (fun e=>by subst e;exact r g2 g2 rfl hg2 rfl)) (fun _ h=>h) (fun k h=>absurd h.2 (Nat.not_lt_zero k)),q,r⟩
 ·intro i j t t' hij ht ht'
  have get:∀i t,(vs.set off u)[i]? =some t->(i=off∧t=u)∨(i≠off∧vs[i]? =some t):=fun i t h=>by
   rcases PQ h with ⟨e,e2⟩|⟨e,e2⟩
   ·exact .inl ⟨e.symm,e2⟩
   ·exact .inr ⟨fun q=>e q.symm,e2⟩
  have hx:∀i t,i≠off->vs[i]? =some t->∃xs,xss[i]? =some xs:=fun i t _ h=>by
   have:=(List.getElem?_eq_some_iff.1 h).1
   exact⟨_,List.getElem?_eq_getElem (by rw [hl]at this;omega)⟩
  rcases get i t ht with ⟨e,rfl⟩|⟨e,h1⟩<;>rcases get j t' ht' with ⟨e',rfl⟩|⟨e',h2⟩
  ·exact absurd (e.trans e'.symm) hij
  ·obtain⟨xs,hxs⟩:=hx j t' e' h2
   exact(b j xs t' e' hxs h2).2.2.2
  ·obtain⟨xs,hxs⟩:=hx i t e h1
   exact(b i xs t e hxs h1).2.2.2.symm
  ·exact d i j t t' e e' hij h1 h2
theorem Sz{ei:TypeId}{t l c2 by' m m' k kd kd'}(ho:o.op= .makeSlice t l c2)(hu:P.underlying t=some (.slice e1))(hi:DP P e1=some ([.slice none 0 0],1,by'))(hl:CL K l=some (.int kd m))(hc:CL K c2=some (.int kd' m'))(hmm:m'=m)
 (hk:Oe m by'=some k):
 LG P N K o w (fun u w'=>∃g,u= .slice (some ⟨g,0,none⟩) k k∧g=w.heap.size∧w'.heap.size=w.heap.size+1∧AR w w'∧own2 c w' g (g+1) e1 ei (List.replicate k []) u (List.replicate k (.slice none 0 0))):=by
 subst hmm
 unfold DP at hi
 obtain⟨i,hi1,hi2⟩:=Option.bind_eq_some_iff.1 hi
 obtain⟨zv,hz1,hz2⟩:=Option.map_eq_some_iff.1 hi2
 simp only [Prod.mk.injEq]at hz2
 obtain⟨e3,e4,e5⟩:=hz2
 unfold Oe at hk
 split at hk
 ·rename_i hm
  injection hk with hk
  have hr:=run_make (P:=P) w t e1 i zv hu hi1 hz1 kd kd' m' m' hm.1 (Int.le_refl _) (by rw [e5,Int.mul_comm];exact hm.2.1) hm.2.2
  intro a hK Kt Q hkk
  have hr2:(execOp a.eval o).run P w= .ok (.value (.slice (some ⟨w.heap.size,0,none⟩) m'.toNat m'.toNat)) (w.alloc (.cells (madeCells zv.cells (m'.toNat*i.size)) e1)):=by
   simp [execOp,ho,hK.ev hl,hK.ev hc,hr]
  unfold Oper.wp
  rw [hr2]
  have hzc:zv.cells= #[.slice none 0 0]:=by rw [←Array.toList_inj,e3]
  have hmc:(madeCells zv.cells (m'.toNat*i.size)).toList=List.replicate k (.slice none 0 0):=by
   rw [hzc,e4,hk,Nat.mul_one]
   apply List.ext_getElem
   ·simp [size_madeCells]
   ·intro j h1 h2
    simp [madeCells,Nat.mod_one]
  refine hkk _ _ ⟨w.heap.size,by rw [hk],rfl,by simp,AR.alloc _ _,⟨by simp,.inr ⟨w.heap.size,k,_,by rw [List.length_replicate,hk],Nat.le_refl _,heap_alloc_new w _,by simp,by simp only [maxLen];omega,?_,?_⟩⟩,?_,?_⟩
  ·rw [←Array.length_toList,hmc];simp
  ·rw [hmc];simp
  ·intro i xs u hx hu2
   have hxs:xs=[]:=by
    rw [List.getElem?_replicate]at hx;split at hx
    ·exact(Option.some.inj hx).symm
    ·cases hx
   have hus:u= .slice none 0 0:=by
    rw [List.getElem?_replicate]at hu2;split at hu2
    ·exact(Option.some.inj hu2).symm
    ·cases hu2
   subst hxs hus
   exact⟨AC.nil _ _ _ _ _,(fun q h=>by cases h),(fun g q _ h=>by cases h)⟩
  ·intro i j u u' _ hu2 _ g q hg
   have hus:u= .slice none 0 0:=by
    rw [List.getElem?_replicate]at hu2;split at hu2
    ·exact(Option.some.inj hu2).symm
    ·cases hu2
   subst hus;cases hg
 ·cases hk
end
end Go.Eng
namespace Go.Eng
open Go Go.RowKit
theorem own2.at1{α:Type}{c:Cy α}[DU c]{w:World}{B hi:Nat}{e1 e2:TypeId}{xss:List (List α)}{v:Value}{vs:List Value}{m:Int}{xs:List α}{g:Nat}{u:Value}(h:own2 c w B hi e1 e2 xss v vs)(hy:AL xss m=some xs)(hg:v.ownBlock=some g)
 (hcl:AO w g (0+m.toNat*(FT c).n) [u]):vs[m.toNat]? =some u:=by
 obtain⟨u',h1,h2⟩:=h.at hy hg rfl hcl
 simp at h1;rw [h1];exact h2
theorem Uv{α:Type}{xs:List α}{m:Int}{y:α}(h:AL xs m=some y):m.toNat<xs.length:=by
 obtain⟨h0,h1,_⟩:=EM h;omega
end Go.Eng
namespace Go.Eng
open Go Go.RowKit
theorem sX{P:Program}{N:Nat}{K:KL}{o:Oper}{α:Type}{c:Cy α}{w w0:World}{B hi:Nat}{e1 e2:TypeId}{xss:List (List α)}{v:Value}{vs:List Value}{n:Nat}{u0:Value}{xs:List α}{t:Nat}{k:IntKind}{m:Int}(h:TJ K o.op=some (t,v,k,m))(hu:P.underlying t=some (.slice e1))(hc:BP P e1=some 1)(hh:UT c w B hi e1 e2 xss v vs n u0)(hg:AL xss m=some xs):
 YE P N K o w0 (fun u=>∃g,u= .pointer (some ⟨g,0+m.toNat*(FT c).n,none⟩)∧v.ownBlock=some g):=by
 obtain⟨x,i,ho,hx,hi'⟩:=RS h
 obtain⟨g0,g1,g2⟩:=EM hg
 obtain⟨⟨hl,⟨rfl,hn⟩|⟨g,cap,cur,rfl,_⟩⟩,_⟩:=hh
 ·omega
 ·exact⟨_,Ex (sz:=(FT c).n) ho hu hc hx hi' g0 g1,g,rfl,rfl⟩
end Go.Eng
namespace Go.Eng
/-! ## Pointers that may be nil -/
def LL{α β:Type}(o:Option α)(a:β)(f:α->β):β:=match o with
 |none=>a
 |some x=>f x
theorem fC{α β:Type}{o:Option α}{A:Option β}{f:α->Option β}{r:β}(h:o=none)(hF:LL o A f=some r):A=some r:=by subst h;exact hF
theorem gE{α β:Type}{o:Option α}{x:α}{A:Option β}{f:α->Option β}{r:β}(h:o=some x)(hF:LL o A f=some r):f x=some r:=by subst h;exact hF
def aA{α:Type}(o:Option α)(p:Prop)(f:α->Prop):Prop:=match o with
 |none=>p
 |some x=>f x
theorem eS{α:Type}{o:Option α}{p:Prop}{f:α->Prop}(h:o=none)(hF:aA o p f):p:=by subst h;exact hF
theorem iG{α:Type}{o:Option α}{x:α}{p:Prop}{f:α->Prop}(h:o=some x)(hF:aA o p f):f x:=by subst h;exact hF
end Go.Eng
namespace Go.Eng
theorem Rw{B hi:Nat}{v:Go.Value}{Q:Nat->Prop}(h:∀k,SX B hi v k->Q k):∀k,SX B hi v k->Q k:=h
end Go.Eng
namespace Go.Eng
open Go Go.RowKit
/-! ## Slices of which nothing is told -/
def OY:Cy Unit where
 n:=1
 rep:=fun _ _ _ vs=>∃a n k,vs=[.slice a n k]
 len:=fun⟨_,_,_,e⟩=>by rw [e];rfl
 one:=fun⟨_,_,_,e⟩=>by rw [e];rfl
 mono:=fun h _ _=>h
instance:DU OY:=⟨fun h=>h⟩
theorem AD.fog{α:Type}{c:Cy α}{w:World}{S:Nat->Prop}{xs:List (List α)}{v:Value}(h:AD (FT c) w S xs v):AD OY w S (xs.map fun _=>()) v:=by
 obtain⟨a,cap,e,h1,h2,h3⟩:=h
 refine⟨a,cap,by rw [List.length_map];exact e,by rw [List.length_map];exact h1,h2,fun hl=>?_⟩
 rw [List.length_map]at hl
 obtain⟨b,off,h4,h5,h6⟩:=h3 hl
 refine⟨b,off,h4,h5,fun i x hx=>?_⟩
 rw [List.getElem?_map]at hx
 obtain⟨y,hy,_⟩:=Option.map_eq_some_iff.1 hx
 obtain⟨us,⟨v',e',a',cap',e2,_⟩,h8⟩:=h6 i y hy
 exact⟨us,⟨a',y.length,cap',by rw [e',e2]⟩,h8⟩
end Go.Eng
namespace Go
@[reducible] def Value.i (x:Int):Value:=.int .i64 x
end Go
namespace Go.Eng
open Go Go.RowKit
/-! ## Cells whose numbers may turn: what is written into them is not told -/
inductive OH:Value->Value->Prop
 |refl (u:Value):OH u u
 |int (k:IntKind) (m n:Int):OH (.int k m) (.int k n)
 |bool (a b:Bool):OH (.bool a) (.bool b)
 |str (a b:ByteArray):OH (.string a) (.string b)
theorem OH.trans{a b c:Value}(h:OH a b)(k:OH b c):OH a c:=by
 cases h with
 |refl=>exact k
 |int kk m n=>cases k with
  |refl=>exact .int kk m n
  |int _ _ q=>exact .int kk m q
 |bool x y=>cases k with
  |refl=>exact .bool x y
  |bool _ q=>exact .bool x q
 |str x y=>cases k with
  |refl=>exact .str x y
  |str _ q=>exact .str x q
def OQ(us vs:List Value):Prop:=us.length=vs.length∧∀(j:Nat) (u v:Value),us[j]? =some u->vs[j]? =some v->OH u v
theorem OQ.refl(us:List Value):OQ us us:=⟨rfl,fun j u v h k=>by rw [h]at k;obtain rfl:=Option.some.inj k;exact .refl _⟩
structure PD(p:Nat->Prop)(w w':World):Prop where
 but:Ab p w w'
 cell:∀b off u,w.cell? ⟨b,off,none⟩=some u->∃u',w'.cell? ⟨b,off,none⟩=some u'∧OH u u'
 froz:∀b off,b<w.heap.size->w.frozen? ⟨b,off,none⟩=false->w'.frozen? ⟨b,off,none⟩=false
section
variable {p q:Nat -> Prop} {w a c:World}
theorem PD.ofBut(h:Ab p w a)(hb:∀k,k<w.heap.size->a.heap[k]? =w.heap[k]?):PD p w a:=
 ⟨h,fun b off u hu=>⟨u,by rw [World.cell?_of_block (w:=w) (hb b (World.block_lt_of_cell? _ _ hu))];exact hu,.refl _⟩,fun b off hl hf=>by rw [FD (hb b hl)];exact hf⟩
theorem PD.then(h:PD p w a)(k:PD q a c)(hb:Ab p w c):PD p w c:=
 ⟨hb,fun b off u hu=>by
  obtain⟨u1,h1,h2⟩:=h.cell b off u hu
  obtain⟨u2,h3,h4⟩:=k.cell b off u1 h1
  exact⟨u2,h3,h2.trans h4⟩,fun b off hl hf=>k.froz b off (Nat.lt_of_lt_of_le hl h.but.size) (h.froz b off hl hf)⟩
theorem PD.ext(h:PD p w a)(he:AR a c):PD p w c:=
 h.then (q:=fun _=>False) (PD.ofBut ⟨he.os,he.tape,he.output,he.size,fun k hk _=>he.block k hk⟩ fun k hk=>he.block k hk) (h.but.ext he)
theorem PD.sim(h:PD p w a)(k:PD q a c)(hq:∀k,q k->p k∨w.heap.size<=k):PD p w c:=h.then k (h.but.but k.but hq)
theorem PD.upd{b:Nat}(h:PD p w a)(hu:Gk b a c)(hb:w.heap.size<=b):PD p w c:=
 ⟨h.but.upd hu (.inr hb),fun d off u hd=>by
  obtain⟨u1,h1,h2⟩:=h.cell d off u hd
  have:=World.block_lt_of_cell? _ _ hd
  exact⟨u1,by rw [World.cell?_of_block (w:=a) (hu.block d (by show d≠b;have:d<w.heap.size:=this;omega))];exact h1,h2⟩,fun d off hl hf=>by
  rw [FD (hu.block d (by omega))];exact h.froz d off hl hf⟩
end
theorem AO.cons{w:World}{b off:Nat}{u:Value}{us:List Value}(h:AO w b off (u::us)):(w.cell? ⟨b,off,none⟩=some u∧w.frozen? ⟨b,off,none⟩=false)∧AO w b (off+1) us:=
 ⟨by have:=h 0 u rfl;rwa [Nat.add_zero]at this,fun j v hj=>by have:=h (j+1) v (by simpa using hj);rwa [show off+(j+1)=off+1+j by omega]at this⟩
theorem AO.mk{w:World}{b off:Nat}{u:Value}{us:List Value}(h0:w.cell? ⟨b,off,none⟩=some u∧w.frozen? ⟨b,off,none⟩=false)(h:AO w b (off+1) us):AO w b off (u::us):=fun j v hj=>by
 cases j with
 |zero=>obtain rfl:u=v:=by simpa using hj
        rw [Nat.add_zero];exact h0
 |succ j=>rw [show off+(j+1)=off+1+j by omega];exact h j v (by simpa using hj)
theorem AO.sim{p:Nat->Prop}{w w':World}(hs:PD p w w'){b:Nat}:∀{us:List Value} {off:Nat},AO w b off us->∃us',OQ us us'∧AO w' b off us'
 |[],off,_=>⟨[],OQ.refl _,fun j u h=>by simp at h⟩
 |u::us,off,h=>by
  obtain⟨⟨h1,h2⟩,h3⟩:=h.cons
  obtain⟨us',⟨k1,k2⟩,k3⟩:=AO.sim hs h3
  obtain⟨u',h4,h5⟩:=hs.cell b off u h1
  refine⟨u'::us',⟨by simp [k1],fun j x y hx hy=>?_⟩,AO.mk ⟨h4,hs.froz b off (World.block_lt_of_cell? _ _ h1) h2⟩ k3⟩
  cases j with
  |zero=>obtain rfl:u=x:=by simpa using hx
         obtain rfl:u'=y:=by simpa using hy
         exact h5
  |succ j=>exact k2 j x y (by simpa using hx) (by simpa using hy)
/-! ## Codecs that do not tell numbers -/
class Qu{α:Type}(c:Cy α):Prop where
 sim:∀{p:Nat->Prop} {w w':World} {S:Nat->Prop} {x:α} {vs vs':List Value},c.rep w S x vs->PD p w w'->OQ vs vs'->c.rep w' S x vs'
theorem OQ.one{u:Value}{vs:List Value}(h:OQ [u] vs):∃v,vs=[v]∧OH u v:=by
 obtain⟨v,rfl⟩:=List.length_eq_one_iff.1 h.1.symm
 exact⟨v,rfl,h.2 0 u v rfl rfl⟩
theorem OQ.app{us ts vs:List Value}(h:OQ (us++ts) vs):∃vs1 vs2,vs=vs1++vs2∧OQ us vs1∧OQ ts vs2:=by
 obtain⟨h1,h2⟩:=h
 rw [List.length_append]at h1
 refine⟨vs.take us.length,vs.drop us.length,(List.take_append_drop _ _).symm,⟨by simp;omega,fun j u v hu hv=>?_⟩,⟨by simp;omega,fun j u v hu hv=>?_⟩⟩
 ·have hj:=(List.getElem?_eq_some_iff.1 hu).1
  rw [List.getElem?_take,if_pos hj]at hv
  exact h2 j u v (by rw [List.getElem?_append_left hj];exact hu) hv
 ·rw [List.getElem?_drop]at hv
  exact h2 (us.length+j) u v (by rw [List.getElem?_append_right (by omega),Nat.add_sub_cancel_left];exact hu) hv
instance {α β:Type}(c:Cy α)(d:Cy β)[hc:Qu c][hd:Qu d]:Qu (Ba c d):=⟨fun⟨us,ts,e,h1,h2⟩ hs h=>by
 subst e;obtain⟨vs1,vs2,rfl,k1,k2⟩:=h.app
 exact⟨vs1,vs2,rfl,hc.sim h1 hs k1,hd.sim h2 hs k2⟩⟩
instance {α β:Type}(f:β->α)(c:Cy α)[hc:Qu c]:Qu (Dl f c):=⟨fun h hs k=>hc.sim h hs k⟩
theorem AD.sim{α:Type}{c:Cy α}[hc:Qu c]{p:Nat->Prop}{w w':World}{S:Nat->Prop}{xs:List α}{v:Value}(h:AD c w S xs v)(hs:PD p w w'):AD c w' S xs v:=by
 obtain⟨a,cap,h1,h2,h3,h4⟩:=h
 refine⟨a,cap,h1,h2,h3,fun hl=>?_⟩
 obtain⟨b,off,h5,h6,h8⟩:=h4 hl
 refine⟨b,off,h5,h6,fun i x hx=>?_⟩
 obtain⟨us,h9,h10⟩:=h8 i x hx
 obtain⟨us',k1,k2⟩:=h10.sim hs
 exact⟨us',hc.sim h9 hs k1,k2⟩
instance {α:Type}(c:Cy α)[Qu c]:Qu (FT c):=⟨fun⟨v,e,h⟩ hs k=>by
 subst e;obtain⟨v',rfl,k2⟩:=k.one
 obtain⟨a,cap,rfl,_⟩:=id h
 cases k2
 exact⟨_,rfl,h.sim hs⟩⟩
section
variable {P:Program} {N:Nat} {o:Oper} {K:KL} {w:World}
end
/-! ## Worlds, in fewer words -/
theorem AC.slG{α:Type}{c:Cy α}{w:World}{B:Nat}{S S':Nat->Prop}{e:TypeId}{xs:List α}{v:Value}(h:AC c w B S e xs v)(hS:∀k,S k->S' k)(hb:∀g,v.ownBlock=some g->S' g):AD c w S' xs v:=by
 obtain⟨cs,h0,h3⟩:=h
 have h0':=h0
 obtain⟨hl,⟨rfl,hn⟩|⟨g,cap,cur,rfl,_,hh,h5,h6,h7,h8⟩⟩:=h0'
 ·have:xs=[]:=List.eq_nil_of_length_eq_zero hn
  subst this;exact AD.nil _ _ _
 ·refine⟨some ⟨g,0,none⟩,cap,rfl,⟨h5,fun h=>by cases h⟩,by simpa [maxLen] using h6,fun hpos=>⟨g,0,rfl,hb g rfl,fun i x hx=>⟨_,c.mono (h3 i x hx) hS (fun _ _=>rfl),fun j u hu=>?_⟩⟩⟩
  have hjn:j<c.n:=by
   have:=(List.getElem?_eq_some_iff.1 hu).1
   simp [BJ]at this;omega
  rw [Bs hjn]at hu
  have:=h0.cells (g:=g) rfl _ _ hu
  rw [Ct]at this
  rw [show 0+i*c.n+j=0+(i*c.n+j) by omega];exact⟨this,by simp [World.frozen?,hh]⟩
theorem nr{n:Nat}:n<=n:=Nat.le_refl n
end Go.Eng
namespace Go.Eng
open Go Go.RowKit
/-! ## Own slices of own slices: built by literals and appends, written by calls -/
def OL:Cy Value where
 n:=1
 rep:=fun _ _ x vs=>vs=[x]∧x.oneCell'=true
 len:=fun h=>by rw [h.1];rfl
 one:=fun h=>by rw [h.1];simp [h.2]
 mono:=fun h _ _=>h
instance:DU OL:=⟨fun h=>h⟩
theorem Xc{w:World}{B:Nat}{S:Nat->Prop}{e:TypeId}{vs:List Value}{v:Value}(h:AC OL w B S e vs v):w.ownsRow B e 1 v vs.length vs:=by
 obtain⟨cs,h1,h2⟩:=h
 have hl:cs.length=vs.length:=by have:=h1.1;simpa [OL] using this
 have e1:cs=vs:=by
  apply List.ext_getElem?
  intro i
  by_cases hi:i<vs.length
  ·have h3:=(h2 i vs[i] (List.getElem?_eq_getElem hi)).1
   have h4:(BJ cs 1 i)[0]? =some vs[i]:=by rw [show BJ cs 1 i=[vs[i]]from h3];rfl
   rw [Bs (by omega)]at h4
   rw [List.getElem?_eq_getElem hi,←h4];congr 1;omega
  ·rw [List.getElem?_eq_none (by omega),List.getElem?_eq_none (by omega)]
 rw [e1]at h1;exact h1
section
variable {α:Type} {c:Cy α} [DU c] {w w':World} {B B1 B2 hi lo1 hi1 lo2 hi2:Nat} {S:Nat -> Prop} {e1 e2:TypeId} {xss:List (List α)} {xs ys:List α} {v u t:Value} {vs:List Value}
theorem own2.raw(h:own2 c w B hi e1 e2 xss v vs):AC OL w B (Iv 0 0) e1 vs v:=by
 have hl:vs.length=xss.length:=by have:=h.1.1;omega
 have h1:=h.1
 rw [←hl]at h1
 refine⟨vs,h1,fun i x hx=>⟨ZJ hx,?_⟩⟩
 have hi:i<xss.length:=by have:=(List.getElem?_eq_some_iff.1 hx).1;omega
 exact(h.2.1 i _ x (List.getElem?_eq_getElem hi) hx).1.one
theorem own2.of(h:AC OL w B S e1 vs v)(hl:vs.length=xss.length)(hin:∀(i:Nat) (xs:List α) (u:Value),xss[i]? =some xs->vs[i]? =some u->AC c w B (Iv 0 0) e2 xs u∧Bd u B hi∧No v u)
 (hd:∀(i j:Nat) (u u':Value),i≠j->vs[i]? =some u->vs[j]? =some u'->No u u'):own2 c w B hi e1 e2 xss v vs:=by
 have h1:=Xc h
 rw [hl]at h1
 exact⟨h1,hin,hd⟩
theorem own2.base{B':Nat}(h:own2 c w B hi e1 e2 xss v vs)(hB:B'<=B):own2 c w B' hi e1 e2 xss v vs:=by
 refine own2.of (AC.base h.raw hB) (by have:=h.1.1;omega) (fun i xs u hx hu=>?_) h.2.2
 obtain⟨p,q,r⟩:=h.2.1 i xs u hx hu
 exact⟨p.base hB,fun g hg=>by have:=q g hg;omega,r⟩
theorem own2.lit0(h:AC OL w B S e1 [] v):own2 c w B hi e1 e2 ([]:List (List α)) v []:=
 own2.of h rfl (fun i xs u hx=>by simp at hx) (fun i j u u' _ hx=>by simp at hx)
theorem own2.lit1{g:Nat}(h:AC OL w g S e1 [u] v)(h1:AC c w B1 (Iv 0 0) e2 xs u)(hb:Bd v g (g+1))(b1:Bd u lo1 hi1)(hB:B<=B1)(hg:B<=g)(hl:B<=lo1)(hh:hi1<=g):own2 c w B g e1 e2 [xs] v [u]:=by
 refine own2.of (AC.base h hg) rfl (fun i x t hx ht=>?_) (fun i j t t' hij ht ht'=>?_)
 ·match i with
  |0=>
   obtain rfl:xs=x:=Option.some.inj hx
   obtain rfl:u=t:=Option.some.inj ht
   exact⟨h1.base hB,fun q hq=>by have:=b1 q hq;omega,fun q q' hq hq'=>by have:=hb q hq;have:=b1 q' hq';omega⟩
  |i+1=>simp at hx
 ·match i,j with
  |0,0=>exact absurd rfl hij
  |0,j+1=>simp at ht'
  |i+1,_=>simp at ht
end
theorem UU{α β:Type}{xs ys zs:List α}{vs us:List β}{k:Nat}(h:CA xs ys k=some zs)(h1:vs.length=xs.length)(h2:us.length=ys.length):CA vs us k=some (vs++us)∧zs=xs++ys:=by
 unfold CA at h ⊢
 rw [h1,h2]
 split at h
 ·rename_i hc
  rw [if_pos hc];exact⟨rfl,(Option.some.inj h).symm⟩
 ·cases h
section
variable {P:Program} {N:Nat} {K:KL} {o:Oper} {α:Type} {c:Cy α} [DU c] {w:World} {B hi B2 hi2:Nat} {e1 e2:TypeId} {xss yss zss:List (List α)} {v u:Value} {vs us:List Value}
theorem Qk{t x y zc sz by'}(ho:o.op= .call { callee:=.builtin .append,args:=#[x,y],argTypes:=#[t,t] })(hu:P.underlying t=some (.slice e1))(hi1:DP P e1=some (zc,sz,by'))(hsz:sz=1)(hzc:zc.length=sz)
 (hx:CL K x=some v) (hy:CL K y=some u) (h:own2 c w B hi e1 e2 xss v vs) (h2:own2 c w B2 hi2 e1 e2 yss u us) (hB:B<=w.heap.size) (hle:hi<=B2) (hBB:B<=B2) (hh2:hi2<=w.heap.size) (hh:hi<=w.heap.size) (hns:Ns v B2 hi2) (ha:CA xss yss by'=some zss):
 LG P N K o w (fun v' w'=>own2 c w' B w'.heap.size e1 e2 zss v' (vs++us)∧AQ w w' v v'):=by
 have hl1:vs.length=xss.length:=by have:=h.1.1;omega
 have hl2:us.length=yss.length:=by have:=h2.1.1;omega
 obtain⟨ha2,rfl⟩:=UU ha hl1 hl2
 intro a hK Kt Q hk
 refine Ac (c:=OL) (S2:=Iv 0 w.heap.size) ho hu hi1 hsz hzc rfl hx hy h.raw hB (AC.slf h2.raw (Nat.zero_le _) (Nat.le_refl _)) ha2 a hK Kt Q ?_
 rintro v' w' ⟨h3,h4⟩
 have hsize:=h4.1.size
 have nv:∀q,q<w.heap.size->(∀g,v.ownBlock=some g->g≠q)->∀g,v'.ownBlock=some g->g≠q:=fun q hq hne g hg=>by
  rcases h4.2 g hg with h5|h5
  ·exact hne g h5
  ·omega
 have one:∀{B3 hi3:Nat} {xs:List α} {t:Value},hi3<=w.heap.size->B<=B3->(∀g q,v.ownBlock=some g->t.ownBlock=some q->g≠q)->AC c w B3 (Iv 0 0) e2 xs t->Bd t B3 hi3->AC c w' B (Iv 0 0) e2 xs t∧Bd t B w'.heap.size∧No v' t:=fun hh3 hB3 hne p q=>
  ⟨(p.keep (fun g hg=>h4.1.block g (by have:=q g hg;omega) (fun e=>hne g g e.symm hg rfl)) (fun _ h=>h) (fun k h=>absurd h.2 (Nat.not_lt_zero k))).base hB3,fun g hg=>by have:=q g hg;omega,fun g q2 hg hq=>nv q2 (by have:=q q2 hq;omega) (fun g2 hg2=>hne g2 q2 hg2 hq) g hg⟩
 have get:∀i t,(vs++us)[i]? =some t->(i<vs.length∧vs[i]? =some t)∨(vs.length<=i∧us[i-vs.length]? =some t):=fun i t h=>by
  by_cases hi:i<vs.length
  ·rw [List.getElem?_append_left hi]at h;exact .inl ⟨hi,h⟩
  ·rw [List.getElem?_append_right (by omega)]at h;exact .inr ⟨by omega,h⟩
 have lo:∀i t,vs[i]? =some t->Bd t B hi∧No v t:=fun i t ht=>by
  have hi:i<xss.length:=by have:=(List.getElem?_eq_some_iff.1 ht).1;omega
  exact(h.2.1 i _ t (List.getElem?_eq_getElem hi) ht).2
 have up:∀i t,us[i]? =some t->Bd t B2 hi2:=fun i t ht=>by
  have hi:i<yss.length:=by have:=(List.getElem?_eq_some_iff.1 ht).1;omega
  exact(h2.2.1 i _ t (List.getElem?_eq_getElem hi) ht).2.1
 refine hk _ _ ⟨own2.of h3 (by simp;omega) (fun i xs t hx2 ht=>?_) (fun i j t t' hij ht ht'=>?_),h4⟩
 ·rcases get i t ht with ⟨h5,h6⟩|⟨h5,h6⟩
  ·rw [List.getElem?_append_left (by omega)]at hx2
   obtain⟨p,q,r⟩:=h.2.1 i xs t hx2 h6
   exact one hh (Nat.le_refl _) r p q
  ·rw [List.getElem?_append_right (by omega)]at hx2
   obtain⟨p,q,r⟩:=h2.2.1 (i-vs.length) xs t (by rw [hl1];exact hx2) h6
   exact one hh2 hBB (fun g q2 hg hq=>by have:=hns g hg;have:=q q2 hq;omega) p q
 ·rcases get i t ht with ⟨h5,h6⟩|⟨h5,h6⟩<;>rcases get j t' ht' with ⟨h7,h8⟩|⟨h7,h8⟩
  ·exact h.2.2 i j t t' hij h6 h8
  ·intro g q hg hq;have:=(lo i t h6).1 g hg;have:=up _ t' h8 q hq;omega
  ·intro g q hg hq;have:=(lo j t' h8).1 q hq;have:=up _ t h6 g hg;omega
  ·exact h2.2.2 (i-vs.length) (j-vs.length) t t' (by omega) h6 h8
end
end Go.Eng
namespace Go.Eng
open Go Go.RowKit
/-! ## A slice that is handed over to grow -/
def Gr(w:World)(v v':Value):Prop:=∀g,v'.ownBlock=some g->v.ownBlock=some g∨w.heap.size<=g
theorem Gr.refl(w:World)(v:Value):Gr w v v:=fun g hg=>.inl hg
theorem Gr.grew{w w1 w2:World}{v v1 v2:Value}(h:Gr w v v1)(hw:w.heap.size<=w1.heap.size)(hg:AQ w1 w2 v1 v2):Gr w v v2:=fun g hv=>by
 rcases hg.2 g hv with h1|h1
 ·exact h g h1
 ·exact .inr (by omega)
theorem AQ.of{w w':World}{v v':Value}(h:Ab (pO v) w w')(g:Gr w v v'):AQ w w' v v':=
 ⟨⟨h.os,h.tape,h.output,h.size,fun k hk hne=>h.block k hk (fun e=>hne e.symm)⟩,g⟩
end Go.Eng
namespace Go.Eng
open Go Go.RowKit
/-! ## The end of an own slice, that may grow -/
def HW{α:Type}(c:Cy α)(w:World)(B:Nat)(e:TypeId)(xs:List α)(v:Value):Prop:=
 ∃cs,cs.length=xs.length*c.n∧(∀i x,xs[i]? =some x->c.rep w (Iv 0 0) x (BJ cs c.n i))∧
  (v= .slice none 0 0∧xs.length=0∨∃g off cap cur,v= .slice (some ⟨g,off,none⟩) xs.length cap∧B<=g∧w.heap[g]? =some (.cells cur e (0,0))∧xs.length<=cap∧cap<=maxLen∧off+cap*c.n<=cur.size∧(cur.toList.drop off).take (xs.length*c.n)=cs)
section
variable {α:Type} {c:Cy α} {w w':World} {B:Nat} {e:TypeId} {xs zs:List α} {v u:Value}
theorem HW.of(h:AC c w B (Iv 0 0) e xs v):HW c w B e xs v:=by
 obtain⟨cs,⟨hl,h1⟩,h3⟩:=h
 refine⟨cs,hl,h3,?_⟩
 rcases h1 with h1|⟨g,cap,cur,rfl,a1,a2,a3,a4,a5,a6⟩
 ·exact .inl h1
 ·exact .inr ⟨g,0,cap,cur,rfl,a1,a2,a3,a4,by omega,by simpa using a6⟩
theorem HW.blk(h:HW c w B e xs v):Bd v B w.heap.size:=by
 obtain⟨cs,_,_,⟨rfl,_⟩|⟨g,off,cap,cur,rfl,a1,a2,_⟩⟩:=h
 ·intro g hg;cases hg
 ·intro q hq
  simp [Value.ownBlock]at hq;subst hq
  exact⟨a1,(Array.getElem?_eq_some_iff.1 a2).1⟩
theorem HW.keep[DU c](h:HW c w B e xs v)(hg:∀g,v.ownBlock=some g->w'.heap[g]? =w.heap[g]?):HW c w' B e xs v:=by
 obtain⟨cs,h1,h2,h3⟩:=h
 refine⟨cs,h1,fun i x hx=>DU.any (h2 i x hx),?_⟩
 rcases h3 with h3|⟨g,off,cap,cur,rfl,a1,a2,rest⟩
 ·exact .inl h3
 ·exact .inr ⟨g,off,cap,cur,rfl,a1,(hg g rfl).trans a2,rest⟩
theorem HW.ext[DU c](h:HW c w B e xs v)(he:AR w w'):HW c w' B e xs v:=h.keep (fun g hg=>he.block g (h.blk g hg).2)
theorem HW.upd[DU c]{b:Nat}(h:HW c w B e xs v)(hu:Gk b w w')(hne:Nb v b):HW c w' B e xs v:=h.keep (fun g hg=>hu.block g (hne g hg))
theorem HW.butF[DU c]{p:Nat->Prop}(h:HW c w B e xs v)(hb:Ab p w w')(hne:∀k,p k->∀g,v.ownBlock=some g->k≠g):HW c w' B e xs v:=h.keep (fun g hg=>hb.block g (h.blk g hg).2 (fun e=>hne g e g hg rfl))
section
variable {P:Program} {N:Nat} {K:KL} {o:Oper} {S:Nat -> Prop}
variable {ys:List α}
end
end
end Go.Eng
namespace Go.Eng
open Go Go.RowKit
/-! ## Short words for the plain texts -/
theorem As{α β:Type}{a:α}{f:α->Option β}:Option.bind (some a) f=f a:=rfl
theorem cT{α:Type}{x y:α}:(bif true then x else y)=x:=rfl
theorem cF{α:Type}{x y:α}:(bif false then x else y)=y:=rfl
theorem wT(i:Nat)(h:i<4611686018427387904:=by omega):IntKind.wrap IntKind.i64 ((i:Int)+1)=((i+1:Nat):Int):=sR h
theorem BM{α:Type}{a r:α}(h:some a=some r):r=a:=(Option.some.inj h).symm
theorem qX(b:Bool):b=true∨b=false:=Bool.eq_false_or_eq_true b
end Go.Eng
namespace Go.Eng
open Go Go.RowKit
/-! ## Parts of an own slice: its beginning, its end, and clear -/
section
variable {α:Type} {c:Cy α} {w w':World} {B:Nat} {S:Nat -> Prop} {e:TypeId} {xs zs:List α} {v u:Value}
section
variable {P:Program} {N:Nat} {K:KL} {o:Oper}
theorem ZS{t x hi k2 m2}(ho:o.op= .slice t x none (some hi) none)(hu:P.underlying t=some (.slice e))(hc:BP P e=some c.n)(hx:CL K x=some v)(h2:CL K hi=some (.int k2 m2))
 (hs:AC c w B S e xs v) (hz:Ky xs 0 m2=some zs):YE P N K o w (fun u=>u=Zp v m2.toNat∧zs=xs.take m2.toNat∧AC c w B S e zs u):=by
 have hs0:=hs
 obtain⟨cs,⟨hl,h1⟩,h3⟩:=hs
 unfold Ky at hz
 split at hz
 ·rename_i hb
  injection hz with hz;subst hz
  have he:(xs.take m2.toNat).drop (0:Int).toNat=xs.take m2.toNat:=by simp
  rw [he]
  have hcut:=hs0.cut (m:=m2.toNat) (by omega)
  obtain⟨i,hi2,hsz⟩:=Option.map_eq_some_iff.1 hc
  rcases h1 with ⟨rfl,h0⟩|⟨g,cap,cur,rfl,a1,a2,a3,a4,a5,a6⟩
  ·have hm0:m2=0:=by omega
   subst hm0
   refine⟨.slice none 0 0,fun a' hK w' he=>?_,rfl,rfl,hcut⟩
   have e1:(Instr.sliceBound (.int k2 0) 0 .sliceAcap).run P w'= .ok (0:Int).toNat w':=GA (by omega) (by omega)
   simp [execOp,ho,hK.ev hx,hK.ev h2,Instr.sliceAt,Instr.slice,run_underlying hu,Instr.sliceBounds,e1,sizeOf,typeInfo,hi2,hsz]
  ·refine⟨.slice (some ⟨g,0,none⟩) m2.toNat cap,fun a' hK w' he=>?_,rfl,rfl,hcut⟩
   have e1:(Instr.sliceBound (.int k2 m2) cap .sliceAcap).run P w'= .ok m2.toNat w':=GA (by omega) (by omega)
   simp [execOp,ho,hK.ev hx,hK.ev h2,Instr.sliceAt,Instr.slice,run_underlying hu,Instr.sliceBounds,e1,sizeOf,typeInfo,hi2,hsz,Ct]
 ·cases hz
end
end
end Go.Eng
namespace Go.Eng
open Go Go.RowKit
/-! ## Numbers that turn within what is only read: what is read then is told by its shape -/
inductive Vv:Value->Value->Prop
 |refl (u:Value):Vv u u
 |int (k:IntKind) (m n:Int):Vv (.int k m) (.int k n)
def Pb(us vs:List Value):Prop:=us.length=vs.length∧∀(j:Nat) (u v:Value),us[j]? =some u->vs[j]? =some v->Vv u v
theorem Pb.refl(us:List Value):Pb us us:=⟨rfl,fun j u v h k=>by rw [h]at k;obtain rfl:=Option.some.inj k;exact .refl _⟩
theorem Pb.one{u:Value}{vs:List Value}(h:Pb [u] vs):∃v,vs=[v]∧Vv u v:=by
 obtain⟨v,rfl⟩:=List.length_eq_one_iff.1 h.1.symm
 exact⟨v,rfl,h.2 0 u v rfl rfl⟩
theorem Pb.app{us ts vs:List Value}(h:Pb (us++ts) vs):∃vs1 vs2,vs=vs1++vs2∧Pb us vs1∧Pb ts vs2:=by
 obtain⟨h1,h2⟩:=h
 rw [List.length_append]at h1
 refine⟨vs.take us.length,vs.drop us.length,(List.take_append_drop _ _).symm,⟨by simp;omega,fun j u v hu hv=>?_⟩,⟨by simp;omega,fun j u v hu hv=>?_⟩⟩
 ·have hj:=(List.getElem?_eq_some_iff.1 hu).1
  rw [List.getElem?_take,if_pos hj]at hv
  exact h2 j u v (by rw [List.getElem?_append_left hj];exact hu) hv
 ·rw [List.getElem?_drop]at hv
  exact h2 (us.length+j) u v (by rw [List.getElem?_append_right (by omega),Nat.add_sub_cancel_left];exact hu) hv
structure EK(b:Nat)(w w':World):Prop where
 upd:Gk b w w'
 cell:∀d off u,w.cell? ⟨d,off,none⟩=some u->∃u',w'.cell? ⟨d,off,none⟩=some u'∧Vv u u'
 froz:∀d off,d<w.heap.size->w.frozen? ⟨d,off,none⟩=false->w'.frozen? ⟨d,off,none⟩=false
 row:∀cur ty fz,w.heap[b]? =some (.cells cur ty fz)->∃cur',w'.heap[b]? =some (.cells cur' ty fz)∧Pb cur.toList cur'.toList
theorem AO.siB{c:Nat}{w w':World}(hs:EK c w w'){b:Nat}:∀{us:List Value} {off:Nat},AO w b off us->∃us',Pb us us'∧AO w' b off us'
 |[],off,_=>⟨[],Pb.refl _,fun j u h=>by simp at h⟩
 |u::us,off,h=>by
  obtain⟨⟨h1,h2⟩,h3⟩:=h.cons
  obtain⟨us',⟨k1,k2⟩,k3⟩:=AO.siB hs h3
  obtain⟨u',h4,h5⟩:=hs.cell b off u h1
  refine⟨u'::us',⟨by simp [k1],fun j x y hx hy=>?_⟩,AO.mk ⟨h4,hs.froz b off (World.block_lt_of_cell? _ _ h1) h2⟩ k3⟩
  cases j with
  |zero=>obtain rfl:u=x:=by simpa using hx
         obtain rfl:u'=y:=by simpa using hy
         exact h5
  |succ j=>exact k2 j x y (by simpa using hx) (by simpa using hy)
def Fb{α:Type}(r:α->α->Prop)(xs ys:List α):Prop:=ys.length=xs.length∧∀(i:Nat) (x y:α),xs[i]? =some x->ys[i]? =some y->r x y
theorem Fb.pick{α:Type}{r:Nat->α->α->Prop}:∀{xs:List α} {s:Nat},(∀(i:Nat) (x:α),xs[i]? =some x->∃y,r (s+i) x y)->∃ys:List α,ys.length=xs.length∧∀(i:Nat) (x y:α),xs[i]? =some x->ys[i]? =some y->r (s+i) x y
 |[],s,_=>⟨[],rfl,fun i x y h=>by simp at h⟩
 |x::xs,s,h=>by
  obtain⟨y,hy⟩:=h 0 x rfl
  obtain⟨ys,h1,h2⟩:=Fb.pick (r:=r) (xs:=xs) (s:=s+1) fun i z hz=>by
   have:=h (i+1) z (by simpa using hz)
   rwa [show s+(i+1)=s+1+i by omega]at this
  refine⟨y::ys,by simp [h1],fun i a b ha hb=>?_⟩
  cases i with
  |zero=>obtain rfl:x=a:=by simpa using ha
         obtain rfl:y=b:=by simpa using hb
         exact hy
  |succ i=>have:=h2 i a b (by simpa using ha) (by simpa using hb)
           rwa [show s+1+i=s+(i+1) by omega]at this
class Px{α:Type}(c:Cy α)(r:outParam (α->α->Prop)):Prop where
 sim:∀{b:Nat} {w w':World} {S:Nat->Prop} {x:α} {vs vs':List Value},c.rep w S x vs->EK b w w'->Pb vs vs'->∃x',r x x'∧c.rep w' S x' vs'
instance (k:IntKind):Px (AJ k) (fun _ _=>True):=⟨fun e _ h=>by
 obtain rfl:=e;obtain⟨v,rfl,h2⟩:=h.one
 cases h2 with
 |refl=>exact⟨_,trivial,rfl⟩
 |int _ _ n=>exact⟨n,trivial,rfl⟩⟩
instance:Px BG Eq:=⟨fun e _ h=>by
 obtain rfl:=e;obtain⟨v,rfl,h2⟩:=h.one
 cases h2;exact⟨_,rfl,rfl⟩⟩
instance:Px Ax Eq:=⟨fun e _ h=>by
 obtain rfl:=e;obtain⟨v,rfl,h2⟩:=h.one
 cases h2;exact⟨_,rfl,rfl⟩⟩
instance {α β:Type}(c:Cy α)(d:Cy β)(r:α->α->Prop)(q:β->β->Prop)[hc:Px c r][hd:Px d q]:Px (Ba c d) (fun x y=>r x.1 y.1∧q x.2 y.2):=⟨fun⟨us,ts,e,h1,h2⟩ hs h=>by
 subst e;obtain⟨vs1,vs2,rfl,k1,k2⟩:=h.app
 obtain⟨x,a1,a2⟩:=hc.sim h1 hs k1
 obtain⟨y,b1,b2⟩:=hd.sim h2 hs k2
 exact⟨(x,y),⟨a1,b1⟩,vs1,vs2,rfl,a2,b2⟩⟩
theorem Px.map{α β:Type}{c:Cy α}{r:α->α->Prop}[hc:Px c r](f:β->α)(g:α->β)(h:∀y,f (g y)=y):Px (Dl f c) (fun x y=>r (f x) (f y)):=⟨fun k hs hv=>by
 obtain⟨y,a1,a2⟩:=hc.sim k hs hv
 exact⟨g y,by show r _ (f (g y));rw [h];exact a1,by show c.rep _ _ (f (g y)) _;rw [h];exact a2⟩⟩
section
variable {α:Type} {c:Cy α} {r:α -> α -> Prop} [hc:Px c r] {b:Nat} {w w':World} {S:Nat -> Prop} {xs:List α} {v:Value}
theorem AD.siB(h:AD c w S xs v)(hs:EK b w w'):∃ys,Fb r xs ys∧AD c w' S ys v:=by
 obtain⟨a,cap,h1,h2,h3,h4⟩:=h
 by_cases hl:0<xs.length
 ·obtain⟨d,off,h5,h6,h8⟩:=h4 hl
  obtain⟨ys,k1,k2⟩:=Fb.pick (r:=fun i x y=>r x y∧∃us,c.rep w' S y us∧AO w' d (off+i*c.n) us) (xs:=xs) (s:=0) fun i x hx=>by
   obtain⟨us,h9,h10⟩:=h8 i x hx
   obtain⟨us',q1,q2⟩:=h10.siB hs
   obtain⟨y,p1,p2⟩:=hc.sim h9 hs q1
   exact⟨y,p1,us',p2,by rw [Nat.zero_add];exact q2⟩
  have get:∀i x,xs[i]? =some x->∃y,ys[i]? =some y:=fun i x hx=>⟨_,List.getElem?_eq_getElem (by have:=(List.getElem?_eq_some_iff.1 hx).1;omega)⟩
  refine⟨ys,⟨k1,fun i x y hx hy=>(k2 i x y hx hy).1⟩,a,cap,by rw [k1];exact h1,by rw [k1];exact h2,h3,fun _=>⟨d,off,h5,h6,fun i y hy=>?_⟩⟩
  have hx:xs[i]? =some (xs[i]'(by have:=(List.getElem?_eq_some_iff.1 hy).1;omega)):=List.getElem?_eq_getElem _
  have:=(k2 i _ y hx hy).2
  rwa [Nat.zero_add]at this
 ·obtain rfl:xs=[]:=List.eq_nil_of_length_eq_zero (by omega)
  exact⟨[],⟨rfl,fun i x y h=>by simp at h⟩,a,cap,h1,h2,h3,fun h=>absurd h hl⟩
theorem AC.siB{B:Nat}{e:TypeId}(h:AC c w B S e xs v)(hs:EK b w w')(hb:∀g,v.ownBlock=some g->g≠b):∃ys,Fb r xs ys∧AC c w' B S e ys v:=by
 obtain⟨cs,h1,h2⟩:=h
 obtain⟨ys,k1,k2⟩:=Fb.pick (r:=fun i x y=>r x y∧c.rep w' S y (BJ cs c.n i)) (xs:=xs) (s:=0) fun i x hx=>by
  obtain⟨y,p1,p2⟩:=hc.sim (h2 i x hx) hs (Pb.refl _)
  exact⟨y,p1,by rw [Nat.zero_add];exact p2⟩
 refine⟨ys,⟨k1,fun i x y hx hy=>(k2 i x y hx hy).1⟩,cs,by rw [k1];exact ownsRow.keep h1 (fun g hg=>hs.upd.block g (hb g hg)),fun i y hy=>?_⟩
 have hx:xs[i]? =some (xs[i]'(by have:=(List.getElem?_eq_some_iff.1 hy).1;omega)):=List.getElem?_eq_getElem _
 have:=(k2 i _ y hx hy).2
 rwa [Nat.zero_add]at this
theorem Pb.part{us vs:List Value}(h:Pb us vs)(m k:Nat):Pb ((us.drop m).take k) ((vs.drop m).take k):=by
 obtain⟨h1,h2⟩:=h
 refine⟨by simp [h1],fun j u v hu hv=>?_⟩
 have hj:j<k:=by have:=(List.getElem?_eq_some_iff.1 hu).1;simp at this;omega
 rw [List.getElem?_take,if_pos hj,List.getElem?_drop]at hu hv
 exact h2 _ u v hu hv
theorem AC.siB2{B:Nat}{e:TypeId}(h:AC c w B S e xs v)(hs:EK b w w'):∃ys,Fb r xs ys∧AC c w' B S e ys v:=by
 obtain⟨cs,h1,h2⟩:=h
 have key:∃cs',Pb cs cs'∧w'.ownsRow B e c.n v xs.length cs':=by
  obtain⟨hl,⟨rfl,hn⟩|⟨g,cap,cur,rfl,hb,hh,h5,h6,h7,h8⟩⟩:=h1
  ·exact⟨cs,Pb.refl _,hl,.inl ⟨rfl,hn⟩⟩
  ·by_cases e2:g=b
   ·subst e2
    obtain⟨cur',hh',hsi⟩:=hs.row cur e (0,0) hh
    have hsz:cur'.size=cur.size:=by have:=hsi.1;simpa using this.symm
    have sp:=hsi.part 0 cs.length
    rw [List.drop_zero,List.drop_zero]at sp
    have e3:cur.toList.take cs.length=cs:=by rw [hl];exact h8
    rw [e3]at sp
    refine⟨cur'.toList.take cs.length,sp,by rw [←sp.1];exact hl,.inr ⟨g,cap,cur',rfl,hb,hh',h5,h6,by rw [hsz];exact h7,by rw [hl]⟩⟩
   ·exact⟨cs,Pb.refl _,hl,.inr ⟨g,cap,cur,rfl,hb,(hs.upd.block g e2).trans hh,h5,h6,h7,h8⟩⟩
 obtain⟨cs',k0,k1⟩:=key
 obtain⟨ys,p1,p2⟩:=Fb.pick (r:=fun i x y=>r x y∧c.rep w' S y (BJ cs' c.n i)) (xs:=xs) (s:=0) fun i x hx=>by
  obtain⟨y,q1,q2⟩:=hc.sim (h2 i x hx) hs (k0.part (i*c.n) c.n)
  exact⟨y,q1,by rw [Nat.zero_add];exact q2⟩
 refine⟨ys,⟨p1,fun i x y hx hy=>(p2 i x y hx hy).1⟩,cs',by rw [p1];exact k1,fun i y hy=>?_⟩
 have hx:xs[i]? =some (xs[i]'(by have:=(List.getElem?_eq_some_iff.1 hy).1;omega)):=List.getElem?_eq_getElem _
 have:=(p2 i _ y hx hy).2
 rwa [Nat.zero_add]at this
end
instance {α:Type}(c:Cy α)(r:α->α->Prop)[Px c r]:Px (FT c) (Fb r):=⟨fun⟨v,e,h⟩ hs k=>by
 subst e;obtain⟨v',rfl,k2⟩:=k.one
 obtain⟨a,cap,rfl,_⟩:=id h
 obtain⟨ys,p1,p2⟩:=h.siB hs
 cases k2
 exact⟨ys,p1,_,rfl,p2⟩⟩
theorem AD.reg{α:Type}{c:Cy α}[DU c]{w w1:World}{S S1:Nat->Prop}{xs:List α}{v:Value}(h:AD c w S xs v)(h1:AD c w1 S1 xs v):AD c w (fun k=>S k∧S1 k) xs v:=by
 obtain⟨a,cap,rfl,h2,h3,h4⟩:=h
 obtain⟨a',cap',e,_,_,h4'⟩:=h1
 refine⟨a,cap,rfl,h2,h3,fun hl=>?_⟩
 obtain⟨b,off,h5,h6,h8⟩:=h4 hl
 obtain⟨b',off',h5',h6',_⟩:=h4' hl
 have ea:a=a':=by injection e
 have eb:b=b':=by rw [h5,h5']at ea;injection ea with ea;injection ea
 refine⟨b,off,h5,⟨h6,eb▸h6'⟩,fun i x hx=>?_⟩
 obtain⟨us,h9,h10⟩:=h8 i x hx
 exact⟨us,DU.any h9,h10⟩
/-! ## A number is written into what is read -/
section
variable {P:Program} {N:Nat} {o:Oper} {K:KL} {w:World}
theorem Kk{t b off o0:Nat}{us:List Value}{k:IntKind}{m0 m1:Int}(j:Nat)(h:jP K o.op=some (t,b,off,.int k m1))(hcl:AO w b o0 us)(hj:off=o0+j)(hu:us[j]? =some (.int k m0))(hn:BP P t=some 1):LG P N K o w (fun _ w'=>EK b w w'):=by
 obtain⟨x,y,ho,hx,hy⟩:=Rr h
 have hcell:=hcl j _ hu
 rw [←hj]at hcell
 obtain⟨hcell,hfro⟩:=hcell
 have hlt:b<w.heap.size:=World.block_lt_of_cell? _ _ hcell
 obtain⟨cur,ty,fz,hrow,hcur⟩:∃cur ty fz,w.heap[b]? =some (.cells cur ty fz)∧cur[off]? =some (.int k m0):=by
  unfold World.cell? at hcell
  split at hcell
  ·rename_i cur ty fz hrow
   exact⟨cur,ty,fz,hrow,by simpa using hcell⟩
  ·cases hcell
 intro a hK Kt Q hk
 obtain⟨ti,hi,hsz⟩:=Option.map_eq_some_iff.1 hn
 have hc:(Value.int k m1).cells.toList=[.int k m1]:=rfl
 have hst:(storeCells ⟨b,off,none⟩ (Value.int k m1).cells.toList 0).run P w= .ok () (w.setRow b (cur.setIfInBounds off (.int k m1))):=by
  rw [hc]
  have hadd:(⟨b,off,none⟩:Addr).add 0=⟨b,off,none⟩:=by simp [Addr.add]
  simp only [storeCells,Sem.run_bind,hadd]
  rw [run_store P w _ (.int k m1) _ rfl,hcell]
  simp [hfro,setCell_eq_setRow w b off cur ty fz (.int k m1) hrow]
 have hl1:(Value.int k m1).cells.size=1:=by have:=congrArg List.length hc;simpa using this
 have hr:(execOp a.eval o).run P w= .ok .skip (w.setRow b (cur.setIfInBounds off (.int k m1))):=by
  simp [execOp,ho,hK.ev hx,hK.ev hy,Instr.storeAt,Instr.sureAddr,storeVar,Sem.run_bind,sizeOf,typeInfo,hi,hsz,hl1]at hst ⊢
  rw [hst]
  simp
 unfold Oper.wp
 rw [hr]
 have hu2:=Gk.setRow w b (cur.setIfInBounds off (.int k m1))
 have hrow2:=setRow_heap w b cur (cur.setIfInBounds off (.int k m1)) ty fz hrow
 refine hk _ _ ⟨hu2,fun d q x hd=>?_,fun d q hl hf=>?_,fun c0 t0 f0 hd=>?_⟩
 ·by_cases e:d=b
  ·subst e
   rw [cell_of_row w d q cur ty fz hrow]at hd
   rw [cell_of_row _ d q _ ty fz hrow2]
   by_cases e2:off=q
   ·subst e2
    rw [hcur]at hd
    obtain rfl:=Option.some.inj hd
    have:=(Array.getElem?_eq_some_iff.1 hcur).1
    exact⟨.int k m1,by simp [this],.int _ _ _⟩
   ·exact⟨x,by rw [Array.getElem?_setIfInBounds_ne e2];exact hd,.refl _⟩
  ·exact⟨x,by rw [World.cell?_of_block (w:=w) (hu2.block d e)];exact hd,.refl _⟩
 ·by_cases e:d=b
  ·subst e
   simp only [World.frozen?,hrow,hrow2]at hf ⊢
   exact hf
  ·rw [FD (hu2.block d e)];exact hf
 ·rw [hrow]at hd
  injection hd with hd;injection hd with e1 e2 e3
  subst e1 e2 e3
  refine⟨_,hrow2,by simp,fun j u v hu hv=>?_⟩
  simp only [Array.getElem?_toList]at hu hv
  by_cases e4:off=j
  ·subst e4
   rw [hcur]at hu
   obtain rfl:=Option.some.inj hu
   have:=(Array.getElem?_eq_some_iff.1 hcur).1
   rw [Array.getElem?_setIfInBounds_self_of_lt this]at hv
   obtain rfl:=Option.some.inj hv
   exact .int _ _ _
  ·rw [Array.getElem?_setIfInBounds_ne e4,hu]at hv
   obtain rfl:=Option.some.inj hv
   exact .refl _
end
/-! ## What a slice's elements lead to, but for the blocks of one kind -/
def HC(w:World)(k:Nat):Option TypeId:=match w.heap[k]? with
 |some (.cells _ e _)=>some e
 |_=>none
def RT(w:World)(B hi:Nat)(v:Value)(tx:TypeId):Nat->Prop:=fun k=>SX B hi v k∧HC w k≠some tx
def CF{α:Type}(c:Cy α)(w:World)(B hi:Nat)(e:TypeId)(xs:List α)(v:Value)(tx:TypeId):Prop:=AC c w B (RT w B hi v tx) e xs v
theorem HC.same{w w':World}{k:Nat}(h:w'.heap[k]? =w.heap[k]?):HC w' k=HC w k:=by unfold HC;rw [h]
section
variable {α:Type} {c:Cy α} {w w':World} {B hi:Nat} {e tx:TypeId} {xs:List α} {v:Value}
theorem AC.tag{S:Nat->Prop}(h:AC c w B S e xs v):∀g,v.ownBlock=some g->HC w g=some e:=by
 obtain⟨cs,⟨_,⟨rfl,_⟩|⟨g,cap,cur,rfl,hb,hh,_⟩⟩,_⟩:=h
 ·intro g hg;cases hg
 ·intro q hq
  have:g=q:=Option.some.inj hq
  subst this
  simp only [HC,hh]
theorem CF.sx(h:CF c w B hi e xs v tx):AC c w B (SX B hi v) e xs v:=AC.keep h (fun _ _=>rfl) (fun _ k=>k.1) (fun _ _=>rfl)
theorem CF.keep(h:CF c w B hi e xs v tx)(h1:∀g,v.ownBlock=some g->w'.heap[g]? =w.heap[g]?)(h2:∀k,RT w B hi v tx k->w'.heap[k]? =w.heap[k]?):CF c w' B hi e xs v tx:=
 AC.keep h h1 (fun k q=>⟨q.1,by rw [HC.same (h2 k q)];exact q.2⟩) h2
theorem CF.ext(h:CF c w B hi e xs v tx)(he:AR w w')(hle:hi<=w.heap.size):CF c w' B hi e xs v tx:=
 h.keep (fun g hg=>he.block g (AC.blk h g hg).2) (fun k q=>he.block k (by have:=q.1.2.1;omega))
theorem CF.upd{b:Nat}(h:CF c w B hi e xs v tx)(hu:Gk b w w')(hne:∀g,v.ownBlock=some g->g≠b)(hb:b<B∨hi<=b:=by omega):CF c w' B hi e xs v tx:=
 h.keep (fun g hg=>hu.block g (hne g hg)) (fun k q=>hu.block k (by have:=q.1.1;have:=q.1.2.1;omega))
theorem CF.but{p:Nat->Prop}(h:CF c w B hi e xs v tx)(hb:Ab p w w')(hne:∀k,p k->∀g,v.ownBlock=some g->k≠g)(hle:hi<=w.heap.size)(hs:∀k,p k->k<B∨hi<=k):CF c w' B hi e xs v tx:=
 h.keep (fun g hg=>hb.block g (AC.blk h g hg).2 (fun e=>hne g e g hg rfl)) (fun k q=>hb.block k (by have:=q.1.2.1;omega) (fun e=>by have:=hs k e;have:=q.1.1;have:=q.1.2.1;omega))
theorem CF.grewI{t t':Value}(hg:AQ w w' t t')(h:CF c w B hi e xs v tx)(hne:∀g q,t.ownBlock=some g->v.ownBlock=some q->g≠q)(hle:hi<=w.heap.size)(hs:∀g,t.ownBlock=some g->g<B∨hi<=g):CF c w' B hi e xs v tx:=
 h.keep (fun g hv=>hg.1.block g (AC.blk h g hv).2 (fun e=>hne g g e.symm hv rfl)) (fun k q=>hg.1.block k (by have:=q.1.2.1;omega) (fun e=>by have:=hs k e.symm;have:=q.1.1;have:=q.1.2.1;omega))
theorem CF.grewT{t t':Value}(hg:AQ w w' t t')(h:CF c w B hi e xs v tx)(hne:∀g q,t.ownBlock=some g->v.ownBlock=some q->g≠q)(hle:hi<=w.heap.size)(ht:∀g,t.ownBlock=some g->HC w g=some tx):CF c w' B hi e xs v tx:=
 h.keep (fun g hv=>hg.1.block g (AC.blk h g hv).2 (fun e=>hne g g e.symm hv rfl)) (fun k q=>hg.1.block k (by have:=q.1.2.1;omega) (fun e=>q.2 (ht k e.symm)))
theorem CF.wide{hi':Nat}(h:CF c w B hi e xs v tx)(hle:hi<=hi':=by omega):CF c w B hi' e xs v tx:=
 AC.keep h (fun _ _=>rfl) (fun k q=>⟨⟨q.1.1,by have:=q.1.2.1;omega,q.1.2.2⟩,q.2⟩) (fun _ _=>rfl)
theorem CF.base{B':Nat}(h:CF c w B hi e xs v tx)(hB:B'<=B):CF c w B' hi e xs v tx:=
 AC.keep (AC.base h hB) (fun _ _=>rfl) (fun k q=>⟨⟨by have:=q.1.1;omega,q.1.2⟩,q.2⟩) (fun _ _=>rfl)
theorem CF.nil{S:Nat->Prop}(h:AC c w B S e [] v):CF c w B hi e [] v tx:=by
 obtain⟨cs,h1,_⟩:=h
 exact⟨cs,h1,fun i x hx=>by simp at hx⟩
theorem AC.slT{lo hi2:Nat}(h:AC c w B (Iv 0 0) e xs v)(hb:Bd v lo hi2)(hne:e≠tx):AD c w (fun k=>Iv lo hi2 k∧HC w k≠some tx) xs v:=
 h.slG (fun k q=>absurd q.2 (Nat.not_lt_zero k)) (fun g hg=>⟨hb g hg,by rw [h.tag g hg];exact fun e2=>hne (Option.some.inj e2)⟩)
theorem AC.litT{g k k2 lo hi2:Nat}{u:Value}{w0:World}(h:AC c w g (fun k=>Iv lo hi2 k∧HC w0 k≠some tx) e xs u)(hu:u= .slice (some ⟨g,0,none⟩) k k2)(h1:lo<=g)(h2:hi2<=g)(hg:g=w0.heap.size)(he:AR w0 w):CF c w lo g e xs u tx:=
 AC.keep (h.base h1) (fun _ _=>rfl) (fun q hq=>⟨⟨hq.1.1,by have:=hq.1.2;omega,fun e=>by
  subst hu
  have h3:g=q:=Option.some.inj e
  have:=hq.1.2;omega⟩,by rw [HC.same (he.block q (by have:=hq.1.2;omega))];exact hq.2⟩) (fun _ _=>rfl)
end
section
variable {P:Program} {N:Nat} {K:KL} {o:Oper} {α:Type} {c:Cy α} {w:World} {B hi B2 hi2:Nat} {e tx:TypeId} {xs ys zs:List α} {v u:Value}
theorem QJ{t x y zc sz by'}(ho:o.op= .call { callee:=.builtin .append,args:=#[x,y],argTypes:=#[t,t] })(hu:P.underlying t=some (.slice e))(hi1:DP P e=some (zc,sz,by'))(hsz:sz=c.n)(hzc:zc.length=sz)
 (hpos:Nat.blt 0 c.n=true) (hx:CL K x=some v) (hy:CL K y=some u) (hs:CF c w B hi e xs v tx) (hb:B<=w.heap.size) (hle:hi<=w.heap.size) (h2:CF c w B2 hi2 e ys u tx) (hB:B<=B2) (hh:hi2<=w.heap.size) (het:e≠tx) (hne:∀g,v.ownBlock=some g->g<B2) (ha:CA xs ys by'=some zs):
 LG P N K o w (fun v' w'=>CF c w' B w.heap.size e zs v' tx∧AQ w w' v v'):=by
 have hr:AD c w (fun k=>(B2<=k∧k<w.heap.size)∧HC w k≠some tx) ys u:=
  AC.slG h2 (fun k q=>⟨⟨q.1.1,by have:=q.1.2.1;omega⟩,q.2⟩) (fun g hg=>⟨AC.blk h2 g hg,by rw [AC.tag h2 g hg];exact fun e2=>het (Option.some.inj e2)⟩)
 intro a hK Kt Q hk
 refine Ls (S':=RT w B w.heap.size v tx) ho hu hi1 hsz hzc hpos hx hy hs hb hr ha (fun k q=>⟨⟨q.1.1,by have:=q.1.2.1;omega,q.1.2.2⟩,q.2⟩)
  (fun _ _ h=>c.mono h (fun k q=>⟨⟨by have:=q.1.1;omega,q.1.2,fun e=>by have:=hne k e;have:=q.1.1;omega⟩,q.2⟩) (fun _ _=>rfl)) (fun k q=>⟨q.1.2.1,q.1.2.2⟩) a hK Kt Q ?_
 rintro v' w' ⟨h3,h4⟩
 refine hk v' w' ⟨h3.keep (fun _ _=>rfl) (fun k q=>⟨⟨q.1.1,q.1.2.1,fun e=>?_⟩,?_⟩) (fun _ _=>rfl),h4⟩
 ·rcases h4.2 k e with h5|h5
  ·exact q.1.2.2 h5
  ·have:=q.1.2.1;omega
 ·rw [HC.same (h4.1.block k q.1.2.1 (fun e=>q.1.2.2 e.symm))];exact q.2
end
/-! ## Functions that are handed what is to be done with their result: whatever it be -/
structure MW where
 any:{α:Type}->(α->Prop)->(α->Option Unit)->Option Unit
 out:∀{α:Type} {p:α->Prop} {f:α->Option Unit},any p f=some ()->∀x,p x->f x=some ()
 inn:∀{α:Type} {p:α->Prop} {f:α->Option Unit},(∀x,p x->f x=some ())->any p f=some ()
theorem VD{O:MW}{α:Type}{p:α->Prop}{f:α->Option Unit}(h:O.any p f=some ())(x:α)(hx:p x):f x=some ():=O.out h x hx
theorem kN{P:Program}{f:FuncId}{vs:Array Value}{w:World}(h:Calls P f vs w (Dn fun u w2=>∃r:Bool,u= .bool r∧AR w w2∧(bif r then some ()else none)=some ())):Calls P f vs w (Dn fun u w2=>u= .bool true∧AR w w2):=
 Calls.mono h fun e w2 ⟨v,h1,r,h2,h3,h4⟩=>⟨v,h1,(match r,h2,h4 with|true,h2,_=>h2|false,_,h4=>nomatch h4),h3⟩
theorem MW.is:Nonempty MW:=by
 classical
 exact⟨⟨fun p f=>if∀x,p x->f x=some ()then some ()else none,(fun h=>by
  split at h
  ·rename_i q;exact q
  ·cases h),fun h=>if_pos h⟩⟩
end Go.Eng
namespace Go.Eng
open Go Go.RowKit
/-! ## Facts that move on together -/
class Mv(w w':World)(A:Prop)(A':outParam Prop)(S:outParam Prop):Prop where
 mv:A->S->AR w w'->A'
class Mu(b:Nat)(w w':World)(A:Prop)(A':outParam Prop)(S:outParam Prop):Prop where
 mv:A->S->Gk b w w'->A'
class Mb(b:Nat)(w w':World)(A:Prop)(A':outParam Prop)(S:outParam Prop):Prop where
 mv:A->S->Ab (pB b) w w'->A'
section
variable {w w':World} {b d lo hi B:Nat} {us:List Value} {t e e1 e2 tx:TypeId} {α:Type} {c:Cy α} {xs:List α} {xss:List (List α)} {v:Value} {vs:List Value}
instance:Mv w w' (Ae w d us t) (Ae w' d us t) True:=⟨fun h _ k=>h.ext k⟩
instance [DU c]:Mv w w' (AC c w B (Iv 0 0) e xs v) (AC c w' B (Iv 0 0) e xs v) True:=⟨fun h _ k=>AC.ext h k⟩
instance:Mv w w' (AD c w (Iv lo hi) xs v) (AD c w' (Iv lo hi) xs v) (hi<=w.heap.size):=⟨fun h s k=>h.old k s⟩
instance:Mv w w' (AC c w B (SX B hi v) e xs v) (AC c w' B (SX B hi v) e xs v) (hi<=w.heap.size):=⟨fun h s k=>AC.extN h k s⟩
instance:Mv w w' (CF c w B hi e xs v tx) (CF c w' B hi e xs v tx) (hi<=w.heap.size):=⟨fun h s k=>CF.ext h k s⟩
instance [DU c]:Mv w w' (own2 c w B hi e1 e2 xss v vs) (own2 c w' B hi e1 e2 xss v vs) (hi<=w.heap.size):=⟨fun h s k=>own2.ext h k s⟩
instance:Mu b w w' (Ae w d us t) (Ae w' d us t) (d≠b):=⟨fun h s k=>h.upd k s⟩
instance:Mu b w w' (AD c w (Iv lo hi) xs v) (AD c w' (Iv lo hi) xs v) (b<lo∨hi<=b):=⟨fun h s k=>AD.upd h k s⟩
instance:Mb b w w' (Ae w d us t) (Ae w' d us t) (b≠d):=⟨fun h s k=>Ae.but h k (AE s)⟩
instance:Mb b w w' (AD c w (Iv lo hi) xs v) (AD c w' (Iv lo hi) xs v) ((b<lo∨hi<=b)∧hi<=w.heap.size):=⟨fun h s k=>AD.but h k (AE s.1) s.2⟩
end
theorem Bx{w w':World}{P1 Q1 S1 P2 Q2 S2:Prop}[i1:Mv w w' P1 Q1 S1][i2:Mv w w' P2 Q2 S2](h1:P1)(h2:P2)(k:AR w w')(s1:S1:=by and_intros<;>first|trivial|omega)(s2:S2:=by and_intros<;>first|trivial|omega):Q1∧Q2:=⟨i1.mv h1 s1 k,i2.mv h2 s2 k⟩
theorem Cr{w w':World}{P1 Q1 S1 P2 Q2 S2 P3 Q3 S3:Prop}[i1:Mv w w' P1 Q1 S1][i2:Mv w w' P2 Q2 S2][i3:Mv w w' P3 Q3 S3](h1:P1)(h2:P2)(h3:P3)(k:AR w w')(s1:S1:=by and_intros<;>first|trivial|omega)(s2:S2:=by and_intros<;>first|trivial|omega)(s3:S3:=by and_intros<;>first|trivial|omega):Q1∧Q2∧Q3:=⟨i1.mv h1 s1 k,i2.mv h2 s2 k,i3.mv h3 s3 k⟩
theorem DN{w w':World}{P1 Q1 S1 P2 Q2 S2 P3 Q3 S3 P4 Q4 S4:Prop}[i1:Mv w w' P1 Q1 S1][i2:Mv w w' P2 Q2 S2][i3:Mv w w' P3 Q3 S3][i4:Mv w w' P4 Q4 S4](h1:P1)(h2:P2)(h3:P3)(h4:P4)(k:AR w w')(s1:S1:=by and_intros<;>first|trivial|omega)(s2:S2:=by and_intros<;>first|trivial|omega)(s3:S3:=by and_intros<;>first|trivial|omega)(s4:S4:=by and_intros<;>first|trivial|omega):Q1∧Q2∧Q3∧Q4:=⟨i1.mv h1 s1 k,i2.mv h2 s2 k,i3.mv h3 s3 k,i4.mv h4 s4 k⟩
theorem FF{w w':World}{P1 Q1 S1 P2 Q2 S2 P3 Q3 S3 P4 Q4 S4 P5 Q5 S5:Prop}[i1:Mv w w' P1 Q1 S1][i2:Mv w w' P2 Q2 S2][i3:Mv w w' P3 Q3 S3][i4:Mv w w' P4 Q4 S4][i5:Mv w w' P5 Q5 S5](h1:P1)(h2:P2)(h3:P3)(h4:P4)(h5:P5)(k:AR w w')(s1:S1:=by and_intros<;>first|trivial|omega)(s2:S2:=by and_intros<;>first|trivial|omega)(s3:S3:=by and_intros<;>first|trivial|omega)(s4:S4:=by and_intros<;>first|trivial|omega)(s5:S5:=by and_intros<;>first|trivial|omega):Q1∧Q2∧Q3∧Q4∧Q5:=⟨i1.mv h1 s1 k,i2.mv h2 s2 k,i3.mv h3 s3 k,i4.mv h4 s4 k,i5.mv h5 s5 k⟩
theorem HT{w w':World}{P1 Q1 S1 P2 Q2 S2 P3 Q3 S3 P4 Q4 S4 P5 Q5 S5 P6 Q6 S6:Prop}[i1:Mv w w' P1 Q1 S1][i2:Mv w w' P2 Q2 S2][i3:Mv w w' P3 Q3 S3][i4:Mv w w' P4 Q4 S4][i5:Mv w w' P5 Q5 S5][i6:Mv w w' P6 Q6 S6](h1:P1)(h2:P2)(h3:P3)(h4:P4)(h5:P5)(h6:P6)(k:AR w w')(s1:S1:=by and_intros<;>first|trivial|omega)(s2:S2:=by and_intros<;>first|trivial|omega)(s3:S3:=by and_intros<;>first|trivial|omega)(s4:S4:=by and_intros<;>first|trivial|omega)(s5:S5:=by and_intros<;>first|trivial|omega)(s6:S6:=by and_intros<;>first|trivial|omega):Q1∧Q2∧Q3∧Q4∧Q5∧Q6:=⟨i1.mv h1 s1 k,i2.mv h2 s2 k,i3.mv h3 s3 k,i4.mv h4 s4 k,i5.mv h5 s5 k,i6.mv h6 s6 k⟩
theorem Ga{w w':World}{P1 Q1 S1 P2 Q2 S2 P3 Q3 S3 P4 Q4 S4 P5 Q5 S5 P6 Q6 S6 P7 Q7 S7:Prop}[i1:Mv w w' P1 Q1 S1][i2:Mv w w' P2 Q2 S2][i3:Mv w w' P3 Q3 S3][i4:Mv w w' P4 Q4 S4][i5:Mv w w' P5 Q5 S5][i6:Mv w w' P6 Q6 S6][i7:Mv w w' P7 Q7 S7](h1:P1)(h2:P2)(h3:P3)(h4:P4)(h5:P5)(h6:P6)(h7:P7)(k:AR w w')(s1:S1:=by and_intros<;>first|trivial|omega)(s2:S2:=by and_intros<;>first|trivial|omega)(s3:S3:=by and_intros<;>first|trivial|omega)(s4:S4:=by and_intros<;>first|trivial|omega)(s5:S5:=by and_intros<;>first|trivial|omega)(s6:S6:=by and_intros<;>first|trivial|omega)(s7:S7:=by and_intros<;>first|trivial|omega):Q1∧Q2∧Q3∧Q4∧Q5∧Q6∧Q7:=⟨i1.mv h1 s1 k,i2.mv h2 s2 k,i3.mv h3 s3 k,i4.mv h4 s4 k,i5.mv h5 s5 k,i6.mv h6 s6 k,i7.mv h7 s7 k⟩
theorem Cf{w w':World}{P1 Q1 S1 P2 Q2 S2 P3 Q3 S3 P4 Q4 S4 P5 Q5 S5 P6 Q6 S6 P7 Q7 S7 P8 Q8 S8:Prop}[i1:Mv w w' P1 Q1 S1][i2:Mv w w' P2 Q2 S2][i3:Mv w w' P3 Q3 S3][i4:Mv w w' P4 Q4 S4][i5:Mv w w' P5 Q5 S5][i6:Mv w w' P6 Q6 S6][i7:Mv w w' P7 Q7 S7][i8:Mv w w' P8 Q8 S8](h1:P1)(h2:P2)(h3:P3)(h4:P4)(h5:P5)(h6:P6)(h7:P7)(h8:P8)(k:AR w w')(s1:S1:=by and_intros<;>first|trivial|omega)(s2:S2:=by and_intros<;>first|trivial|omega)(s3:S3:=by and_intros<;>first|trivial|omega)(s4:S4:=by and_intros<;>first|trivial|omega)(s5:S5:=by and_intros<;>first|trivial|omega)(s6:S6:=by and_intros<;>first|trivial|omega)(s7:S7:=by and_intros<;>first|trivial|omega)(s8:S8:=by and_intros<;>first|trivial|omega):Q1∧Q2∧Q3∧Q4∧Q5∧Q6∧Q7∧Q8:=⟨i1.mv h1 s1 k,i2.mv h2 s2 k,i3.mv h3 s3 k,i4.mv h4 s4 k,i5.mv h5 s5 k,i6.mv h6 s6 k,i7.mv h7 s7 k,i8.mv h8 s8 k⟩
theorem MY{w w':World}{b:Nat}{P1 Q1 S1 P2 Q2 S2:Prop}[i1:Mu b w w' P1 Q1 S1][i2:Mu b w w' P2 Q2 S2](h1:P1)(h2:P2)(k:Gk b w w')(s1:S1:=by and_intros<;>first|trivial|omega)(s2:S2:=by and_intros<;>first|trivial|omega):Q1∧Q2:=⟨i1.mv h1 s1 k,i2.mv h2 s2 k⟩
theorem EH{w w':World}{b:Nat}{P1 Q1 S1 P2 Q2 S2 P3 Q3 S3:Prop}[i1:Mu b w w' P1 Q1 S1][i2:Mu b w w' P2 Q2 S2][i3:Mu b w w' P3 Q3 S3](h1:P1)(h2:P2)(h3:P3)(k:Gk b w w')(s1:S1:=by and_intros<;>first|trivial|omega)(s2:S2:=by and_intros<;>first|trivial|omega)(s3:S3:=by and_intros<;>first|trivial|omega):Q1∧Q2∧Q3:=⟨i1.mv h1 s1 k,i2.mv h2 s2 k,i3.mv h3 s3 k⟩
theorem HU{w w':World}{b:Nat}{P1 Q1 S1 P2 Q2 S2 P3 Q3 S3 P4 Q4 S4:Prop}[i1:Mu b w w' P1 Q1 S1][i2:Mu b w w' P2 Q2 S2][i3:Mu b w w' P3 Q3 S3][i4:Mu b w w' P4 Q4 S4](h1:P1)(h2:P2)(h3:P3)(h4:P4)(k:Gk b w w')(s1:S1:=by and_intros<;>first|trivial|omega)(s2:S2:=by and_intros<;>first|trivial|omega)(s3:S3:=by and_intros<;>first|trivial|omega)(s4:S4:=by and_intros<;>first|trivial|omega):Q1∧Q2∧Q3∧Q4:=⟨i1.mv h1 s1 k,i2.mv h2 s2 k,i3.mv h3 s3 k,i4.mv h4 s4 k⟩
theorem Mg{w w':World}{b:Nat}{P1 Q1 S1 P2 Q2 S2 P3 Q3 S3 P4 Q4 S4 P5 Q5 S5:Prop}[i1:Mu b w w' P1 Q1 S1][i2:Mu b w w' P2 Q2 S2][i3:Mu b w w' P3 Q3 S3][i4:Mu b w w' P4 Q4 S4][i5:Mu b w w' P5 Q5 S5](h1:P1)(h2:P2)(h3:P3)(h4:P4)(h5:P5)(k:Gk b w w')(s1:S1:=by and_intros<;>first|trivial|omega)(s2:S2:=by and_intros<;>first|trivial|omega)(s3:S3:=by and_intros<;>first|trivial|omega)(s4:S4:=by and_intros<;>first|trivial|omega)(s5:S5:=by and_intros<;>first|trivial|omega):Q1∧Q2∧Q3∧Q4∧Q5:=⟨i1.mv h1 s1 k,i2.mv h2 s2 k,i3.mv h3 s3 k,i4.mv h4 s4 k,i5.mv h5 s5 k⟩
theorem RH{w w':World}{b:Nat}{P1 Q1 S1 P2 Q2 S2 P3 Q3 S3 P4 Q4 S4 P5 Q5 S5 P6 Q6 S6:Prop}[i1:Mu b w w' P1 Q1 S1][i2:Mu b w w' P2 Q2 S2][i3:Mu b w w' P3 Q3 S3][i4:Mu b w w' P4 Q4 S4][i5:Mu b w w' P5 Q5 S5][i6:Mu b w w' P6 Q6 S6](h1:P1)(h2:P2)(h3:P3)(h4:P4)(h5:P5)(h6:P6)(k:Gk b w w')(s1:S1:=by and_intros<;>first|trivial|omega)(s2:S2:=by and_intros<;>first|trivial|omega)(s3:S3:=by and_intros<;>first|trivial|omega)(s4:S4:=by and_intros<;>first|trivial|omega)(s5:S5:=by and_intros<;>first|trivial|omega)(s6:S6:=by and_intros<;>first|trivial|omega):Q1∧Q2∧Q3∧Q4∧Q5∧Q6:=⟨i1.mv h1 s1 k,i2.mv h2 s2 k,i3.mv h3 s3 k,i4.mv h4 s4 k,i5.mv h5 s5 k,i6.mv h6 s6 k⟩
theorem Eo{w w':World}{b:Nat}{P1 Q1 S1 P2 Q2 S2 P3 Q3 S3 P4 Q4 S4 P5 Q5 S5 P6 Q6 S6 P7 Q7 S7:Prop}[i1:Mu b w w' P1 Q1 S1][i2:Mu b w w' P2 Q2 S2][i3:Mu b w w' P3 Q3 S3][i4:Mu b w w' P4 Q4 S4][i5:Mu b w w' P5 Q5 S5][i6:Mu b w w' P6 Q6 S6][i7:Mu b w w' P7 Q7 S7](h1:P1)(h2:P2)(h3:P3)(h4:P4)(h5:P5)(h6:P6)(h7:P7)(k:Gk b w w')(s1:S1:=by and_intros<;>first|trivial|omega)(s2:S2:=by and_intros<;>first|trivial|omega)(s3:S3:=by and_intros<;>first|trivial|omega)(s4:S4:=by and_intros<;>first|trivial|omega)(s5:S5:=by and_intros<;>first|trivial|omega)(s6:S6:=by and_intros<;>first|trivial|omega)(s7:S7:=by and_intros<;>first|trivial|omega):Q1∧Q2∧Q3∧Q4∧Q5∧Q6∧Q7:=⟨i1.mv h1 s1 k,i2.mv h2 s2 k,i3.mv h3 s3 k,i4.mv h4 s4 k,i5.mv h5 s5 k,i6.mv h6 s6 k,i7.mv h7 s7 k⟩
theorem Dh{w w':World}{b:Nat}{P1 Q1 S1 P2 Q2 S2 P3 Q3 S3 P4 Q4 S4 P5 Q5 S5 P6 Q6 S6 P7 Q7 S7 P8 Q8 S8:Prop}[i1:Mu b w w' P1 Q1 S1][i2:Mu b w w' P2 Q2 S2][i3:Mu b w w' P3 Q3 S3][i4:Mu b w w' P4 Q4 S4][i5:Mu b w w' P5 Q5 S5][i6:Mu b w w' P6 Q6 S6][i7:Mu b w w' P7 Q7 S7][i8:Mu b w w' P8 Q8 S8](h1:P1)(h2:P2)(h3:P3)(h4:P4)(h5:P5)(h6:P6)(h7:P7)(h8:P8)(k:Gk b w w')(s1:S1:=by and_intros<;>first|trivial|omega)(s2:S2:=by and_intros<;>first|trivial|omega)(s3:S3:=by and_intros<;>first|trivial|omega)(s4:S4:=by and_intros<;>first|trivial|omega)(s5:S5:=by and_intros<;>first|trivial|omega)(s6:S6:=by and_intros<;>first|trivial|omega)(s7:S7:=by and_intros<;>first|trivial|omega)(s8:S8:=by and_intros<;>first|trivial|omega):Q1∧Q2∧Q3∧Q4∧Q5∧Q6∧Q7∧Q8:=⟨i1.mv h1 s1 k,i2.mv h2 s2 k,i3.mv h3 s3 k,i4.mv h4 s4 k,i5.mv h5 s5 k,i6.mv h6 s6 k,i7.mv h7 s7 k,i8.mv h8 s8 k⟩
theorem Gu{w w':World}{b:Nat}{P1 Q1 S1 P2 Q2 S2:Prop}[i1:Mb b w w' P1 Q1 S1][i2:Mb b w w' P2 Q2 S2](h1:P1)(h2:P2)(k:Ab (pB b) w w')(s1:S1:=by and_intros<;>first|trivial|omega)(s2:S2:=by and_intros<;>first|trivial|omega):Q1∧Q2:=⟨i1.mv h1 s1 k,i2.mv h2 s2 k⟩
theorem HV{w w':World}{b:Nat}{P1 Q1 S1 P2 Q2 S2 P3 Q3 S3:Prop}[i1:Mb b w w' P1 Q1 S1][i2:Mb b w w' P2 Q2 S2][i3:Mb b w w' P3 Q3 S3](h1:P1)(h2:P2)(h3:P3)(k:Ab (pB b) w w')(s1:S1:=by and_intros<;>first|trivial|omega)(s2:S2:=by and_intros<;>first|trivial|omega)(s3:S3:=by and_intros<;>first|trivial|omega):Q1∧Q2∧Q3:=⟨i1.mv h1 s1 k,i2.mv h2 s2 k,i3.mv h3 s3 k⟩
theorem KW{w w':World}{b:Nat}{P1 Q1 S1 P2 Q2 S2 P3 Q3 S3 P4 Q4 S4:Prop}[i1:Mb b w w' P1 Q1 S1][i2:Mb b w w' P2 Q2 S2][i3:Mb b w w' P3 Q3 S3][i4:Mb b w w' P4 Q4 S4](h1:P1)(h2:P2)(h3:P3)(h4:P4)(k:Ab (pB b) w w')(s1:S1:=by and_intros<;>first|trivial|omega)(s2:S2:=by and_intros<;>first|trivial|omega)(s3:S3:=by and_intros<;>first|trivial|omega)(s4:S4:=by and_intros<;>first|trivial|omega):Q1∧Q2∧Q3∧Q4:=⟨i1.mv h1 s1 k,i2.mv h2 s2 k,i3.mv h3 s3 k,i4.mv h4 s4 k⟩
theorem Yp{w w':World}{b:Nat}{P1 Q1 S1 P2 Q2 S2 P3 Q3 S3 P4 Q4 S4 P5 Q5 S5:Prop}[i1:Mb b w w' P1 Q1 S1][i2:Mb b w w' P2 Q2 S2][i3:Mb b w w' P3 Q3 S3][i4:Mb b w w' P4 Q4 S4][i5:Mb b w w' P5 Q5 S5](h1:P1)(h2:P2)(h3:P3)(h4:P4)(h5:P5)(k:Ab (pB b) w w')(s1:S1:=by and_intros<;>first|trivial|omega)(s2:S2:=by and_intros<;>first|trivial|omega)(s3:S3:=by and_intros<;>first|trivial|omega)(s4:S4:=by and_intros<;>first|trivial|omega)(s5:S5:=by and_intros<;>first|trivial|omega):Q1∧Q2∧Q3∧Q4∧Q5:=⟨i1.mv h1 s1 k,i2.mv h2 s2 k,i3.mv h3 s3 k,i4.mv h4 s4 k,i5.mv h5 s5 k⟩
theorem rM{w w':World}{b:Nat}{P1 Q1 S1 P2 Q2 S2 P3 Q3 S3 P4 Q4 S4 P5 Q5 S5 P6 Q6 S6:Prop}[i1:Mb b w w' P1 Q1 S1][i2:Mb b w w' P2 Q2 S2][i3:Mb b w w' P3 Q3 S3][i4:Mb b w w' P4 Q4 S4][i5:Mb b w w' P5 Q5 S5][i6:Mb b w w' P6 Q6 S6](h1:P1)(h2:P2)(h3:P3)(h4:P4)(h5:P5)(h6:P6)(k:Ab (pB b) w w')(s1:S1:=by and_intros<;>first|trivial|omega)(s2:S2:=by and_intros<;>first|trivial|omega)(s3:S3:=by and_intros<;>first|trivial|omega)(s4:S4:=by and_intros<;>first|trivial|omega)(s5:S5:=by and_intros<;>first|trivial|omega)(s6:S6:=by and_intros<;>first|trivial|omega):Q1∧Q2∧Q3∧Q4∧Q5∧Q6:=⟨i1.mv h1 s1 k,i2.mv h2 s2 k,i3.mv h3 s3 k,i4.mv h4 s4 k,i5.mv h5 s5 k,i6.mv h6 s6 k⟩
theorem Ss{w w':World}{b:Nat}{P1 Q1 S1 P2 Q2 S2 P3 Q3 S3 P4 Q4 S4 P5 Q5 S5 P6 Q6 S6 P7 Q7 S7:Prop}[i1:Mb b w w' P1 Q1 S1][i2:Mb b w w' P2 Q2 S2][i3:Mb b w w' P3 Q3 S3][i4:Mb b w w' P4 Q4 S4][i5:Mb b w w' P5 Q5 S5][i6:Mb b w w' P6 Q6 S6][i7:Mb b w w' P7 Q7 S7](h1:P1)(h2:P2)(h3:P3)(h4:P4)(h5:P5)(h6:P6)(h7:P7)(k:Ab (pB b) w w')(s1:S1:=by and_intros<;>first|trivial|omega)(s2:S2:=by and_intros<;>first|trivial|omega)(s3:S3:=by and_intros<;>first|trivial|omega)(s4:S4:=by and_intros<;>first|trivial|omega)(s5:S5:=by and_intros<;>first|trivial|omega)(s6:S6:=by and_intros<;>first|trivial|omega)(s7:S7:=by and_intros<;>first|trivial|omega):Q1∧Q2∧Q3∧Q4∧Q5∧Q6∧Q7:=⟨i1.mv h1 s1 k,i2.mv h2 s2 k,i3.mv h3 s3 k,i4.mv h4 s4 k,i5.mv h5 s5 k,i6.mv h6 s6 k,i7.mv h7 s7 k⟩
theorem FZ{w w':World}{b:Nat}{P1 Q1 S1 P2 Q2 S2 P3 Q3 S3 P4 Q4 S4 P5 Q5 S5 P6 Q6 S6 P7 Q7 S7 P8 Q8 S8:Prop}[i1:Mb b w w' P1 Q1 S1][i2:Mb b w w' P2 Q2 S2][i3:Mb b w w' P3 Q3 S3][i4:Mb b w w' P4 Q4 S4][i5:Mb b w w' P5 Q5 S5][i6:Mb b w w' P6 Q6 S6][i7:Mb b w w' P7 Q7 S7][i8:Mb b w w' P8 Q8 S8](h1:P1)(h2:P2)(h3:P3)(h4:P4)(h5:P5)(h6:P6)(h7:P7)(h8:P8)(k:Ab (pB b) w w')(s1:S1:=by and_intros<;>first|trivial|omega)(s2:S2:=by and_intros<;>first|trivial|omega)(s3:S3:=by and_intros<;>first|trivial|omega)(s4:S4:=by and_intros<;>first|trivial|omega)(s5:S5:=by and_intros<;>first|trivial|omega)(s6:S6:=by and_intros<;>first|trivial|omega)(s7:S7:=by and_intros<;>first|trivial|omega)(s8:S8:=by and_intros<;>first|trivial|omega):Q1∧Q2∧Q3∧Q4∧Q5∧Q6∧Q7∧Q8:=⟨i1.mv h1 s1 k,i2.mv h2 s2 k,i3.mv h3 s3 k,i4.mv h4 s4 k,i5.mv h5 s5 k,i6.mv h6 s6 k,i7.mv h7 s7 k,i8.mv h8 s8 k⟩
end Go.Eng
namespace Go.Eng
open Go Go.RowKit
/-! ## Literals of slice types, said shortly -/
section
variable {P:Program} {N:Nat} {K:KL} {o:Oper} {w:World} {α:Type} {e:TypeId}
theorem HM{t len parts zc sz by'}(c:Cy α)(xs:List α)(S:Nat->Prop)(uls:List (List Value))(ho:o.op= .buildSlice t len parts)(hu:P.underlying t=some (.slice e))(hi:DP P e=some (zc,sz,by'))
 (hp:(Im K parts.toList).map (List.map fun p=>(p.1,p.2.cells.toList))=some (Gq 0 uls))
 (hb:(Nat.beq sz c.n&&(Nat.blt 0 c.n&&(Nat.ble (len*sz) 16777216&&(Nat.beq uls.length len&&(Nat.beq len xs.length&&uls.all (fun us=>Nat.beq us.length sz))))))=true) (hrep:NR c w S xs uls) (hS:∀k,S k->k<w.heap.size):
 LG P N K o w (fun u w'=>∃g,u= .slice (some ⟨g,0,none⟩) len len∧g=w.heap.size∧w'.heap.size=w.heap.size+1∧AR w w'∧AC c w' g S e xs u):=by
 obtain⟨vs,e1,e2⟩:=Option.map_eq_some_iff.1 hp
 simp only [Bool.and_eq_true]at hb
 obtain⟨b1,b2,b3,b4,b5,b6⟩:=hb
 have b1:=Nat.eq_of_beq_eq_true b1
 have b4:=Nat.eq_of_beq_eq_true b4
 have b5:=Nat.eq_of_beq_eq_true b5
 exact Gz (out:=Bk uls) ho hu hi e1 e2 (Mh uls rfl b6 b4) b3 b1 b2 b5 (Ph hrep rfl) hS (by rw [Gp fun us h=>Nat.eq_of_beq_eq_true (List.all_eq_true.1 b6 us h),b4])
theorem AZ{t len parts zc sz by'}(c:Cy α)(xs:List α)(uls:List (List Value))(ho:o.op= .buildSlice t len parts)(hu:P.underlying t=some (.slice e))(hi:DP P e=some (zc,sz,by'))
 (hp:(Im K parts.toList).map (List.map fun p=>(p.1,p.2.cells.toList))=some (Gq 0 uls))
 (hb:(Nat.beq sz c.n&&(Nat.blt 0 c.n&&(Nat.ble (len*sz) 16777216&&(Nat.beq uls.length len&&(Nat.beq len xs.length&&uls.all (fun us=>Nat.beq us.length sz))))))=true) (hrep:NR c w (Iv 0 0) xs uls):
 LG P N K o w (fun u w'=>∃g,u= .slice (some ⟨g,0,none⟩) len len∧g=w.heap.size∧w'.heap.size=w.heap.size+1∧AR w w'∧AC c w' g (Iv 0 0) e xs u):=
 HM c xs (Iv 0 0) uls ho hu hi hp hb hrep fun k h=>by have:=h.2;omega
theorem Bz{t parts zc pl}(vs:List Value)(ho:o.op= .build t parts)(hp:(Im K parts.toList).map (List.map fun p=>(p.1,p.2.cells.toList))=some (Gq 0 (vs.map fun v=>[v])))(hz:Dr P t=some zc)(hpl:CZ P t=some pl)(hf:Jj pl zc (Gq 0 (vs.map fun v=>[v]))=some vs):EL P N K o w (.agg vs.toArray):=by
 obtain⟨us,e1,e2⟩:=Option.map_eq_some_iff.1 hp
 exact An ho e1 hz hpl e2 hf
end
end Go.Eng
namespace Go.Eng
open Go Go.RowKit
/-! ## The rows of a slice of slices, apart from another slice -/
def SO(v:Value)(vs:List Value):Prop:=∀(i:Nat) (u:Value),vs[i]? =some u->No v u
theorem SO.nil(v:Value):SO v []:=fun i u h=>by simp at h
theorem SO.app{v:Value}{vs us:List Value}(h:SO v vs)(h2:SO v us):SO v (vs++us):=fun i u hu=>by
 by_cases c:i<vs.length
 ·rw [List.getElem?_append_left c]at hu;exact h i u hu
 ·rw [List.getElem?_append_right (by omega)]at hu;exact h2 _ u hu
section
variable {α:Type} {c:Cy α} [DU c] {w w':World} {B hi lo' hi':Nat} {e1 e2:TypeId} {xss:List (List α)} {v z:Value} {vs:List Value}
theorem SO.of(h:own2 c w B hi e1 e2 xss v vs)(hz:Bd z lo' hi')(k:hi'<=B∨hi<=lo':=by omega):SO z vs:=fun i u hu=>by
 have hl:=h.1.1
 have hi2:i<xss.length:=by have:=(List.getElem?_eq_some_iff.1 hu).1;omega
 obtain⟨_,q,_⟩:=h.2.1 i _ u (List.getElem?_eq_getElem hi2) hu
 exact No.of hz q (by omega)
theorem own2.updR{b:Nat}(h:own2 c w B hi e1 e2 xss v vs)(hu:Gk b w w')(hne:Nb v b)(hz:z.ownBlock=some b)(hr:SO z vs):own2 c w' B hi e1 e2 xss v vs:=by
 obtain⟨a,d,e⟩:=h
 refine⟨ownsRow.keep a (fun g hg=>hu.block g (hne g hg)),fun i xs u hx hu2=>?_,e⟩
 obtain⟨p,q,r⟩:=d i xs u hx hu2
 exact⟨p.keep (fun g hg=>hu.block g (fun e=>hr i u hu2 _ _ hz hg e.symm)) (fun _ h=>h) (fun k h=>absurd h.2 (Nat.not_lt_zero k)),q,r⟩
end
end Go.Eng
namespace Go.Eng
open Go Go.RowKit
/-! ## Own slices that move on with others -/
def OB(A:Prop)(v:Value)(lo hi:Nat):Prop:=A∧Bd v lo hi
theorem AG{A:Prop}{v:Value}{lo hi:Nat}(h:A)(k:Bd v lo hi):OB A v lo hi:=⟨h,k⟩
theorem Nb.alt{v:Value}{b lo hi:Nat}(h:Bd v lo hi)(k:b<lo∨hi<=b):∀g,v.ownBlock=some g->b≠g:=fun g hg=>by have:=h g hg;omega
section
variable {w w' a:World} {b lo hi B h:Nat} {e:TypeId} {α:Type} {c:Cy α} {xs:List α} {v:Value}
instance [DU c]:Mu b w w' (OB (AC c w B (Iv 0 0) e xs v) v lo hi) (AC c w' B (Iv 0 0) e xs v) (b<lo∨hi<=b):=⟨fun h s k=>AC.upd h.1 k (Nb.of h.2 s)⟩
instance:Mu b w w' (OB (AC c w B (SX B h v) e xs v) v lo hi) (AC c w' B (SX B h v) e xs v) ((b<lo∨hi<=b)∧(b<B∨h<=b)):=⟨fun h s k=>AC.updN h.1 k (Nb.of h.2 s.1) s.2⟩
instance [DU c]:Mu b w w' (OB (HW c w B e xs v) v lo hi) (HW c w' B e xs v) (b<lo∨hi<=b):=⟨fun h s k=>HW.upd h.1 k (Nb.of h.2 s)⟩
instance [DU c]:Mb b w w' (OB (AC c w B (Iv 0 0) e xs v) v lo hi) (AC c w' B (Iv 0 0) e xs v) (b<lo∨hi<=b):=⟨fun h s k=>AC.butF h.1 k (AE (Nb.alt h.2 s))⟩
instance:Mb b w w' (OB (AC c w B (SX B h v) e xs v) v lo hi) (AC c w' B (SX B h v) e xs v) ((b<lo∨hi<=b)∧(b<B∨h<=b)∧h<=w.heap.size):=⟨fun h s k=>AC.butN h.1 k (AE (Nb.alt h.2 s.1)) s.2.2 (AE s.2.1)⟩
instance [DU c]:Mb b w w' (OB (HW c w B e xs v) v lo hi) (HW c w' B e xs v) (b<lo∨hi<=b):=⟨fun h s k=>HW.butF h.1 k (AE (Nb.alt h.2 s))⟩
theorem YH{P1 Q1 S1:Prop}[i1:Mu b w w' P1 Q1 S1](h1:P1)(k:Gk b w w')(s1:S1:=by and_intros<;>first|trivial|omega):Q1:=i1.mv h1 s1 k
theorem Qz{P1 Q1 S1:Prop}[i1:Mb b w w' P1 Q1 S1](h1:P1)(k:Ab (pB b) w w')(s1:S1:=by and_intros<;>first|trivial|omega):Q1:=i1.mv h1 s1 k
theorem Bv(h:Ab (pB b) w a)(k:Ab (pB b) a w'):Ab (pB b) w w':=Ab.but h k (AE (Or.inl rfl))
end
end Go.Eng
namespace Go.Eng
open Go Go.RowKit
/-! ## Short words for the walks' texts: what is computed is asked for last -/
theorem z{α:Sort _}{a:α}:a=a:=rfl
@[reducible] def _root_.Go.Value.p (b:Nat):Value:=.pointer (some ⟨b,0,none⟩)
section
variable {P:Program} {N:Nat} {ops:Array Oper} {Q:Exit -> Act -> World -> Prop} {n:Nat} {K:KL} {w w0:World} {f:Nat} {listed:Array Bool} {p:Nat -> Prop}
theorem Bm{o:Oper}{v:Value}(i:Nat)(hi:ops[i]? =some o)(h:∀wx,Ab p w0 wx->EL P N K o wx v)(k:EQ P N ops n (noPan Q) p w0 f (listed.setIfInBounds i true) (Bq K o.dst v) w)
 (hh:EU ops n=true:=by kernel_rfl) (hc:(Nat.blt i n&&Region.free .any ops listed i&&(Region.ready .any ops listed).contains i)=true:=by kernel_rfl) (hg:o.guard=none:=by rfl) (hd:Eb N o.dst=true:=by rfl):
 EQ P N ops n (noPan Q) p w0 (f+1) listed K w:=EQ.yld i hh hi hc hg hd h k
theorem LD{o:Oper}{Ψ:Value->Prop}(i:Nat)(hi:ops[i]? =some o)(h:YA P N K o Ψ)(k:∀v,Ψ v->EQ P N ops n (noPan Q) p w0 f (listed.setIfInBounds i true) (Bq K o.dst v) w)
 (hh:EU ops n=true:=by kernel_rfl) (hc:(Nat.blt i n&&Region.free .any ops listed i&&(Region.ready .any ops listed).contains i)=true:=by kernel_rfl) (hg:o.guard=none:=by rfl) (hd:Eb N o.dst=true:=by rfl):
 EQ P N ops n (noPan Q) p w0 (f+1) listed K w:=EQ.ya i hh hi hc hg hd h k
theorem Cq{o:Oper}{R:Value->World->Prop}(i:Nat)(hi:ops[i]? =some o)(h:LG P N K o w R)(k:∀v w',R v w'->Ab p w0 w'∧EQ P N ops n (noPan Q) p w0 f (listed.setIfInBounds i true) (Bq K o.dst v) w')
 (hin:Nat.blt i n=true:=by rfl) (hr:Region.ready .any ops listed=[i]:=by kernel_rfl) (hg:o.guard=none:=by rfl) (hd:Eb N o.dst=true:=by rfl):EQ P N ops n (noPan Q) p w0 (f+1) listed K w:=EQ.eff i hi hin hr hg hd h k
theorem Hq{o:Oper}{R:Value->World->Prop}(i:Nat)(hi:ops[i]? =some o)(h:LG P N K o w R)(k:∀v w',R v w'->Ab p w0 w'∧EQ P N ops n (noPan Q) p w0 f (listed.setIfInBounds i true) (Bq K o.dst v) w')
 (hin:Nat.blt i n=true:=by rfl) (hr:(Region.ready .any ops listed).contains i=true:=by kernel_rfl) (hg:o.guard=none:=by rfl) (hd:Eb N o.dst=true:=by rfl):iD P N ops n (noPan Q) p w0 f listed K w i:=iD.eff i hi hin hr hg hd h k
theorem IW{o:Oper}{R:Value->World->Prop}(i:Nat)(hi:ops[i]? =some o)(h:LG P N K o w R)(k:∀v w',R v w'->AR w0 w'∧HL P N ops n (noPan Q) w0 f (listed.setIfInBounds i true) (Bq K o.dst v) w')
 (hin:Nat.blt i n=true:=by rfl) (hr:(Region.ready .any ops listed).contains i=true:=by kernel_rfl) (h0:Fm N ops K o= .yes:=by rfl):HB P N ops n (noPan Q) w0 f listed K w i:=sU i hi hin hr h0 h k
theorem Es{o:Oper}{R:Value->World->Prop}(i:Nat)(hi:ops[i]? =some o)(h:LG P N K o w R)(k:∀v w',R v w'->AR w0 w'∧HL P N ops n (noPan Q) w0 f (listed.setIfInBounds i true) (Bq K o.dst v) w')
 (hin:Nat.blt i n=true:=by rfl) (hr:Region.ready .any ops listed=[i]:=by kernel_rfl) (h0:Fm N ops K o= .yes:=by rfl):HL P N ops n (noPan Q) w0 (f+1) listed K w:=sB i hi hin hr h0 h k
theorem BT{o:Oper}{v:Value}(i:Nat)(hh:EU ops n=true)(hi:ops[i]? =some o)(h:EL P N K o w0 v)(k:HL P N ops n (noPan Q) w0 f (listed.setIfInBounds i true) (Bq K o.dst v) w)
 (hc:(Nat.blt i n&&Region.free .any ops listed i&&(Region.ready .any ops listed).contains i)=true:=by kernel_rfl) (h0:Fm N ops K o= .yes:=by rfl):HL P N ops n (noPan Q) w0 (f+1) listed K w:=lV i hh hi hc h0 h k
theorem GY{o:Oper}{Ψ:Value->Prop}(i:Nat)(hh:EU ops n=true)(hi:ops[i]? =some o)(h:YE P N K o w0 Ψ)(k:∀v,Ψ v->HL P N ops n (noPan Q) w0 f (listed.setIfInBounds i true) (Bq K o.dst v) w)
 (hc:(Nat.blt i n&&Region.free .any ops listed i&&(Region.ready .any ops listed).contains i)=true:=by kernel_rfl) (h0:Fm N ops K o= .yes:=by rfl):HL P N ops n (noPan Q) w0 (f+1) listed K w:=pA i hh hi hc h0 h k
theorem FN{l:List Oper}(hops:ops=l.toArray)(k:TL P N ops (noPan Q) (l.drop n) K w)(hseq:Region.seqB .any ops (l.drop n).length n listed=true:=by kernel_rfl)(hf:f=(l.drop n).length:=by rfl):HL P N ops n (noPan Q) w0 f listed K w:=HL.tail hops hseq hf k
theorem FS{l:List Oper}(hops:ops=l.toArray)(k:TL P N ops (noPan Q) (l.drop n) K w)(hseq:Region.seqB .any ops (l.drop n).length n listed=true:=by kernel_rfl)(hf:f=(l.drop n).length:=by rfl):EQ P N ops n (noPan Q) p w0 f listed K w:=EQ.tail hops hseq hf k
theorem EE(hh:EU ops n=true)(is:List Nat){f:Nat}{listed:Array Bool}{K:KL}(h:Uf P N ops n Q w0 is f listed K w)(hc:Zz ops n is listed=true:=by kernel_rfl):HL P N ops n (noPan Q) w0 f listed K w:=Hr hh is hc h
theorem Co{id:Nat}{l:List Oper}(n:Nat)(hm:P.follows .mixedOrders=true)(h:∀w',AR w w'->EU l.toArray n=true->HL P N l.toArray n (noPan Q) w' l.length (Array.replicate l.length false) K w')(hh:EU l.toArray n=true:=by kernel_rfl):
 WC P N (.region id l.toArray true) Q K w:=WC.heldD n hm hh h
theorem Bi{id:Nat}{l:List Oper}(hm:P.follows .mixedOrders=true)(h:QL P N l.toArray w (fun a'=>∀w',AR w w'->Q .normal a' w') l K)(hB:Region.lexB .any l.toArray=true:=by kernel_rfl):WC P N (.region id l.toArray true) Q K w:=WC.quiet hm hB h
theorem Iz{K':KL}(e:K'.map (fun p=>kl K p.1)=K'.map (fun p=>some p.2):=by rfl):QL P N ops w (fun a=>Kn N K' a) [] K:=QL.nil fun a h=>h.sub e
end
section
variable {P:Program} {N:Nat} {Q0:Exit -> Act -> World -> Prop} {K K':KL} {w:World} {fs:List Frame} {ops:Array Oper} {l:List Oper}
theorem EF{R:World->Prop}(r:R w)(e:K'.map (fun p=>kl K p.1)=K'.map (fun p=>some p.2):=by rfl):TL P N ops (GC P Q0 (.lp (fun a u=>Kn N K' a∧R u)::fs)) [] K w:=TL.nil fun _ h=>⟨h.sub e,r⟩
def Od(K:KL):List Nat->KL->Option KL
 |[],acc=>some acc
 |i::is,acc=>match kl K i with
  |some v=>Od K is ((i,v)::acc)
  |none=>none
end
section
variable {P:Program} {N:Nat} {ops:Array Oper} {Q:Exit -> Act -> World -> Prop} {K:KL} {w:World} {l:List Oper} {Qa:Act -> Prop}
theorem Kd(t:Nat){c:Bool}(h:kl K t=some (.bool c))(h1:c=true->TL P N ops Q l ((t,.bool true)::K) w)(h2:c=false->TL P N ops Q l ((t,.bool false)::K) w):TL P N ops Q l K w:=by
 rcases qX c with e|e
 ·exact Kc t e h (h1 e)
 ·exact Kc t e h (h2 e)
theorem Ke{α:Type}(t:Nat){c:Bool}{x y:Option α}{r:α}(h:kl K t=some (.bool c))(e:(bif c then x else y)=some r)(h1:c=true->x=some r->TL P N ops Q l ((t,.bool true)::K) w)(h2:c=false->y=some r->TL P N ops Q l ((t,.bool false)::K) w):TL P N ops Q l K w:=
 Kd t h (fun j=>h1 j (ND j e)) fun j=>h2 j (NC j e)
theorem pM(t:Nat){c:Bool}(h:kl K t=some (.bool c))(h1:c=true->QL P N ops w Qa l ((t,.bool true)::K))(h2:c=false->QL P N ops w Qa l ((t,.bool false)::K)):QL P N ops w Qa l K:=by
 rcases qX c with e|e
 ·exact Kq t e h (h1 e)
 ·exact Kq t e h (h2 e)
end
theorem AD.oj{α:Type}{c:Cy α}{w w':World}{lo H:Nat}{xs:List α}{v:Value}(h:AD c w (Iv lo H) xs v)(he:AR w w')(hH:H<=w.heap.size:=by assumption):AD c w' (Iv lo H) xs v:=h.old he hH
theorem Cd{P:Program}{N:Nat}{c:Code}{Q:Exit->Act->World->Prop}{K:KL}{w:World}{a:Act}(hK:Kn N K a)(h:WC P N c Q K w):c.wp P Q a w:=h a hK
section
variable (P:Program) (N:Nat) (ops:Array Oper) (n:Nat) (Q:Exit -> Act -> World -> Prop) (p:Nat -> Prop) (w0:World)
def YB:List Nat->Nat->Array Bool->KL->World->Prop
 |[]=>fun f listed K w=>EQ P N ops n (noPan Q) p w0 f listed K w
 |i::is=>fun f listed K w=>match f with
  |0=>False
  |f+1=>match ops[i]? with
   |none=>False
   |some o=>match o.guard with
    |some _=>False
    |none=>match Eb N o.dst with
     |false=>False
     |true=>match yq K o.op with
      |some v=>YB is f (listed.setIfInBounds i true) (Bq K o.dst v) w
      |none=>False
end
section
variable {P:Program} {N:Nat} {ops:Array Oper} {Q:Exit -> Act -> World -> Prop} {n:Nat} {p:Nat -> Prop} {w w0:World}
theorem qY(hh:EU ops n=true):∀(is:List Nat) {f:Nat} {listed:Array Bool} {K:KL},Zz ops n is listed=true->YB P N ops n Q p w0 is f listed K w->EQ P N ops n (noPan Q) p w0 f listed K w
 |[],_,_,_,_,h=>h
 |i::is,0,listed,K,_,h=>h.elim
 |i::is,f+1,listed,K,hc,h=>by
  simp only [Zz,Bool.and_eq_true]at hc
  have hc':(Nat.blt i n&&Region.free .any ops listed i&&(Region.ready .any ops listed).contains i)=true:=by simp only [Bool.and_eq_true];exact hc.1
  simp only [YB]at h
  split at h
  ·exact h.elim
  ·rename_i o hi
   split at h
   ·exact h.elim
   ·rename_i hg
    split at h
    ·exact h.elim
    ·rename_i hd
     split at h
     ·rename_i v hv;exact EQ.yld i hh hi hc' hg hd (fun wx _=>NJ hv) (qY hh is hc.2 h)
     ·exact h.elim
theorem Du(is:List Nat){f:Nat}{listed:Array Bool}{K:KL}(h:YB P N ops n Q p w0 is f listed K w)(hh:EU ops n=true:=by kernel_rfl)(hc:Zz ops n is listed=true:=by kernel_rfl):EQ P N ops n (noPan Q) p w0 f listed K w:=qY hh is hc h
end
@[reducible] def Bc (v:Value) (w:World):Ending->World->Prop:=Dn fun u U=>u=v∧AR w U
theorem DA{p:Nat->Prop}{w a c:World}{b:Nat}(h:Ab p w a)(hu:Gk b a c)(hb:w.heap.size<=b:=by omega):Ab p w c∧c.heap.size=a.heap.size:=Lb h hu (.inr hb)
@[reducible] def Am {α:Type} (c:Cy α) (w:World) (H:Nat) (xs:List α) (v:Value):Prop:=AD c w (Iv 0 H) xs v
end Go.Eng
namespace Go.Eng
open Go Go.RowKit
/-! ## Several steps in one word -/
@[reducible] def Zo (us:List Value) (i:Nat) (Z:Value->Prop):Prop:=match us[i]? with
 |some u=>Z u
 |none=>False
theorem Zo.ok{us:List Value}{i:Nat}{Z:Value->Prop}(h:Zo us i Z):∃u,us[i]? =some u∧Z u:=by
 unfold Zo at h
 split at h
 ·rename_i u hu;exact⟨u,hu,h⟩
 ·exact h.elim
section
variable {P:Program} {N:Nat} {ops:Array Oper} {Q:Exit -> Act -> World -> Prop} {K:KL} {w w0:World} {o o2 o3:Oper} {rest:List Oper} {Qa:Act -> Prop} {α β:Type} {r:β}
theorem Cs{A:Option α}{g:α->Option β}{rt:α->Value}{f:Nat}{vs:List Value}(hF:A.bind g=some r)(he:AR w0 w)(hf:Au P f=true)
 (hc:∀x,A=some x->Calls P f vs.toArray w (Bc (rt x) w)) (k:∀x,g x=some r->∀w',AR w w'->AR w0 w'∧w.heap.size<=w'.heap.size->TL P N ops Q rest (Bq K o.dst (rt x)) w')
 (h0:Fm N ops K o= .yes:=by rfl) (hcl:dE K o.op=some (f,vs):=by rfl):TL P N ops Q (o::rest) K w:=by
 obtain⟨x,h1,h2⟩:=AK hF
 refine Ef h0 (CP hcl hf (hc _ h1)) fun v w' h=>?_
 obtain⟨rfl,h⟩:=h
 exact k x h2 w' h (Et he h)
theorem Cg{A:Option α}{g:α->Option β}{R:α->Value->World->Prop}{f:Nat}{vs:List Value}(hF:A.bind g=some r)(hf:Au P f=true)
 (hc:∀x,A=some x->Calls P f vs.toArray w (Dn (R x))) (k:∀x,g x=some r->∀v w',R x v w'->TL P N ops Q rest (Bq K o.dst v) w')
 (h0:Fm N ops K o= .yes:=by rfl) (hcl:dE K o.op=some (f,vs):=by rfl):TL P N ops Q (o::rest) K w:=by
 obtain⟨x,h1,h2⟩:=AK hF
 exact Ef h0 (CP hcl hf (hc _ h1)) fun v w' h=>k x h2 v w' h
section
variable {c:Cy α} {xs:List α} {S:Nat -> Prop} {v:Value} {e t t2 B:Nat} {m:Int} {kk:IntKind} {g:α -> Option β} {sv:α -> Value}
theorem Ix(hF:(AL xs m).bind g=some r)(hs:AD c w S xs v)(hu:P.underlying t=some (.slice e))(hc:BP P e=some c.n)
 (k:∀y,AL xs m=some y->g y=some r->∀u,(∃b off us,u= .pointer (some ⟨b,off,none⟩)∧S b∧c.rep w S y us∧AO w b off us)->TL P N ops Q rest (Bq K o.dst u) w)
 (h0:Fm N ops K o= .yes:=by rfl) (hi:TJ K o.op=some (t,v,kk,m):=by rfl):TL P N ops Q (o::rest) K w:=by
 obtain⟨y,h1,h2⟩:=AK hF
 exact Ye h0 (Jd hi hu hc hs h1) fun u h=>k y h1 h2 u h
theorem Io(hF:(AL xs m).bind g=some r)(hs:AC c w B S e xs v)(hu:P.underlying t=some (.slice e))(hc:BP P e=some c.n)
 (k:∀y,AL xs m=some y->g y=some r->∀u,(∃b us,u= .pointer (some ⟨b,0+m.toNat*c.n,none⟩)∧v.ownBlock=some b∧c.rep w S y us∧AO w b (0+m.toNat*c.n) us)->TL P N ops Q rest (Bq K o.dst u) w)
 (h0:Fm N ops K o= .yes:=by rfl) (hi:TJ K o.op=some (t,v,kk,m):=by rfl):TL P N ops Q (o::rest) K w:=by
 obtain⟨y,h1,h2⟩:=AK hF
 exact Ye h0 (Jg hi hu hc hs h1) fun u h=>k y h1 h2 u h
theorem Iq(hF:(AL xs m).bind g=some r)(hs:AD c w S xs v)(hu:P.underlying t=some (.slice e))(hc:BP P e=some c.n)
 (k:∀y,AL xs m=some y->g y=some r->∀u,(∃b off us,u= .pointer (some ⟨b,off,none⟩)∧S b∧c.rep w S y us∧AO w b off us)->QL P N ops w Qa rest (Bq K o.dst u))
 (h0:Fm N ops K o= .yes:=by rfl) (hi:TJ K o.op=some (t,v,kk,m):=by rfl):QL P N ops w Qa (o::rest) K:=by
 obtain⟨y,h1,h2⟩:=AK hF
 exact Qe h0 (Jd hi hu hc hs h1) fun u h=>k y h1 h2 u h
theorem cX(hF:(AL xs m).bind g=some r)(hs:AC c w B S e xs v)(hu:P.underlying t=some (.slice e))(hc:BP P e=some c.n)
 (k:∀y,AL xs m=some y->g y=some r->∀u,(∃b us,u= .pointer (some ⟨b,0+m.toNat*c.n,none⟩)∧v.ownBlock=some b∧c.rep w S y us∧AO w b (0+m.toNat*c.n) us)->QL P N ops w Qa rest (Bq K o.dst u))
 (h0:Fm N ops K o= .yes:=by rfl) (hi:TJ K o.op=some (t,v,kk,m):=by rfl):QL P N ops w Qa (o::rest) K:=by
 obtain⟨y,h1,h2⟩:=AK hF
 exact Qe h0 (Jg hi hu hc hs h1) fun u h=>k y h1 h2 u h
theorem Il(hF:(AL xs m).bind g=some r)(hs:AD c w S xs v)(hu:P.underlying t=some (.slice e))(hc:BP P e=some c.n)(ha:Ch P t2=some false)
 (k:∀y,g y=some r->∀u,TL P N ops Q rest (Bq (Bq K o.dst u) o2.dst (sv y)) w)
 (hsv:∀y us,c.rep w S y us->us=[sv y]:=by exact fun _ _ h=>h) (h0:Fm N ops K o= .yes:=by rfl) (hi:TJ K o.op=some (t,v,kk,m):=by rfl)
 (h2:∀u,Fm N ops (Bq K o.dst u) o2= .yes:=by intro _;rfl) (hl:∀b off,Qx (Bq K o.dst (.pointer (some ⟨b,off,none⟩))) o2.op=some (t2,b,off):=by intro _ _;rfl):TL P N ops Q (o::o2::rest) K w:=by
 refine Ix hF hs hu hc (fun y _ h3 u h=>?_) h0 hi
 obtain⟨b,off,us,rfl,_,h5,h6⟩:=h
 have h5:=hsv _ _ h5
 subst h5
 exact Yl (h2 _) (Dz 0 (hl _ _) ha h6 rfl rfl) (k y h3 _)
theorem JT(hF:(AL xs m).bind g=some r)(hs:AC c w B S e xs v)(hu:P.underlying t=some (.slice e))(hc:BP P e=some c.n)(ha:Ch P t2=some false)
 (k:∀y,g y=some r->∀u,TL P N ops Q rest (Bq (Bq K o.dst u) o2.dst (sv y)) w)
 (hsv:∀y us,c.rep w S y us->us=[sv y]:=by exact fun _ _ h=>h) (h0:Fm N ops K o= .yes:=by rfl) (hi:TJ K o.op=some (t,v,kk,m):=by rfl)
 (h2:∀u,Fm N ops (Bq K o.dst u) o2= .yes:=by intro _;rfl) (hl:∀b off,Qx (Bq K o.dst (.pointer (some ⟨b,off,none⟩))) o2.op=some (t2,b,off):=by intro _ _;rfl):TL P N ops Q (o::o2::rest) K w:=by
 refine Io hF hs hu hc (fun y _ h3 u h=>?_) h0 hi
 obtain⟨b,us,rfl,_,h5,h6⟩:=h
 have h5:=hsv _ _ h5
 subst h5
 exact Yl (h2 _) (Dz 0 (hl _ _) ha h6 rfl rfl) (k y h3 _)
theorem PA(hF:(AL xs m).bind g=some r)(hs:AD c w S xs v)(hu:P.underlying t=some (.slice e))(hc:BP P e=some c.n)(ha:Ch P t2=some false)
 (k:∀y,g y=some r->∀u,QL P N ops w Qa rest (Bq (Bq K o.dst u) o2.dst (sv y)))
 (hsv:∀y us,c.rep w S y us->us=[sv y]:=by exact fun _ _ h=>h) (h0:Fm N ops K o= .yes:=by rfl) (hi:TJ K o.op=some (t,v,kk,m):=by rfl)
 (h2:∀u,Fm N ops (Bq K o.dst u) o2= .yes:=by intro _;rfl) (hl:∀b off,Qx (Bq K o.dst (.pointer (some ⟨b,off,none⟩))) o2.op=some (t2,b,off):=by intro _ _;rfl):QL P N ops w Qa (o::o2::rest) K:=by
 refine Iq hF hs hu hc (fun y _ h3 u h=>?_) h0 hi
 obtain⟨b,off,us,rfl,_,h5,h6⟩:=h
 have h5:=hsv _ _ h5
 subst h5
 exact Qy (h2 _) (Dz 0 (hl _ _) ha h6 rfl rfl) (k y h3 _)
theorem UN(hF:(AL xs m).bind g=some r)(hs:AC c w B S e xs v)(hu:P.underlying t=some (.slice e))(hc:BP P e=some c.n)(ha:Ch P t2=some false)
 (k:∀y,g y=some r->∀u,QL P N ops w Qa rest (Bq (Bq K o.dst u) o2.dst (sv y)))
 (hsv:∀y us,c.rep w S y us->us=[sv y]:=by exact fun _ _ h=>h) (h0:Fm N ops K o= .yes:=by rfl) (hi:TJ K o.op=some (t,v,kk,m):=by rfl)
 (h2:∀u,Fm N ops (Bq K o.dst u) o2= .yes:=by intro _;rfl) (hl:∀b off,Qx (Bq K o.dst (.pointer (some ⟨b,off,none⟩))) o2.op=some (t2,b,off):=by intro _ _;rfl):QL P N ops w Qa (o::o2::rest) K:=by
 refine cX hF hs hu hc (fun y _ h3 u h=>?_) h0 hi
 obtain⟨b,us,rfl,_,h5,h6⟩:=h
 have h5:=hsv _ _ h5
 subst h5
 exact Qy (h2 _) (Dz 0 (hl _ _) ha h6 rfl rfl) (k y h3 _)
end
section
variable {t f fo t2 t3 b T e off:Nat} {us:List Value} {c:Cy α} {xs:List α} {S:Nat -> Prop} {v:Value}
theorem Fl(hfo:Ad P t f=some fo)(ha:Ch P t2=some false)(hb:Ae w b us T)(k:Zo us (0+fo) fun u=>TL P N ops Q rest (Bq (Bq K o.dst (.pointer (some ⟨b,0+fo,none⟩))) o2.dst u) w)
 (h0:Fm N ops K o= .yes:=by rfl) (hi:YO K o.op=some (t,f,b,0):=by rfl) (h2:Fm N ops (Bq K o.dst (.pointer (some ⟨b,0+fo,none⟩))) o2= .yes:=by rfl)
 (hl:Qx (Bq K o.dst (.pointer (some ⟨b,0+fo,none⟩))) o2.op=some (t2,b,0+fo):=by rfl):TL P N ops Q (o::o2::rest) K w:=by
 obtain⟨u,hu,k⟩:=k.ok
 exact Yl h0 (BX hi hfo) (Yl h2 (DO hl ha hb hu) k)
theorem Fq(hfo:Ad P t f=some fo)(ha:Ch P t2=some false)(hb:Ae w b us T)(k:Zo us (0+fo) fun u=>QL P N ops w Qa rest (Bq (Bq K o.dst (.pointer (some ⟨b,0+fo,none⟩))) o2.dst u))
 (h0:Fm N ops K o= .yes:=by rfl) (hi:YO K o.op=some (t,f,b,0):=by rfl) (h2:Fm N ops (Bq K o.dst (.pointer (some ⟨b,0+fo,none⟩))) o2= .yes:=by rfl)
 (hl:Qx (Bq K o.dst (.pointer (some ⟨b,0+fo,none⟩))) o2.op=some (t2,b,0+fo):=by rfl):QL P N ops w Qa (o::o2::rest) K:=by
 obtain⟨u,hu,k⟩:=k.ok
 exact Qy h0 (BX hi hfo) (Qy h2 (DO hl ha hb hu) k)
theorem Fc(hfo:Ad P t f=some fo)(ha:Ch P t2=some false)(hb:AO w b off us)(k:Zo us fo fun u=>TL P N ops Q rest (Bq (Bq K o.dst (.pointer (some ⟨b,off+fo,none⟩))) o2.dst u) w)
 (h0:Fm N ops K o= .yes:=by rfl) (hi:YO K o.op=some (t,f,b,off):=by rfl) (h2:Fm N ops (Bq K o.dst (.pointer (some ⟨b,off+fo,none⟩))) o2= .yes:=by rfl)
 (hl:Qx (Bq K o.dst (.pointer (some ⟨b,off+fo,none⟩))) o2.op=some (t2,b,off+fo):=by rfl):TL P N ops Q (o::o2::rest) K w:=by
 obtain⟨u,hu,k⟩:=k.ok
 exact Yl h0 (BX hi hfo) (Yl h2 (Dz fo hl ha hb rfl hu) k)
theorem Jf(hfo:Ad P t f=some fo)(ha:Ch P t2=some false)(hb:AO w b off us)(k:Zo us fo fun u=>QL P N ops w Qa rest (Bq (Bq K o.dst (.pointer (some ⟨b,off+fo,none⟩))) o2.dst u))
 (h0:Fm N ops K o= .yes:=by rfl) (hi:YO K o.op=some (t,f,b,off):=by rfl) (h2:Fm N ops (Bq K o.dst (.pointer (some ⟨b,off+fo,none⟩))) o2= .yes:=by rfl)
 (hl:Qx (Bq K o.dst (.pointer (some ⟨b,off+fo,none⟩))) o2.op=some (t2,b,off+fo):=by rfl):QL P N ops w Qa (o::o2::rest) K:=by
 obtain⟨u,hu,k⟩:=k.ok
 exact Qy h0 (BX hi hfo) (Qy h2 (Dz fo hl ha hb rfl hu) k)
theorem EC(hfo:Ad P t f=some fo)(ha:Ch P t2=some false)(hb:Ae w b us T)(hu3:P.underlying t3=some (.slice e))(hs:AD c w S xs v)
 (k:TL P N ops Q rest (Bq (Bq (Bq K o.dst (.pointer (some ⟨b,0+fo,none⟩))) o2.dst v) o3.dst (.int .i64 xs.length)) w) (hv:us[0+fo]? =some v:=by rfl)
 (h0:Fm N ops K o= .yes:=by rfl) (hi:YO K o.op=some (t,f,b,0):=by rfl) (h2:Fm N ops (Bq K o.dst (.pointer (some ⟨b,0+fo,none⟩))) o2= .yes:=by rfl)
 (hl:Qx (Bq K o.dst (.pointer (some ⟨b,0+fo,none⟩))) o2.op=some (t2,b,0+fo):=by rfl) (h3:Fm N ops (Bq (Bq K o.dst (.pointer (some ⟨b,0+fo,none⟩))) o2.dst v) o3= .yes:=by rfl)
 (hl3:cN (Bq (Bq K o.dst (.pointer (some ⟨b,0+fo,none⟩))) o2.dst v) o3.op=some (t3,v):=by rfl):TL P N ops Q (o::o2::o3::rest) K w:=
 Yl h0 (BX hi hfo) (Yl h2 (DO hl ha hb hv) (Yl h3 (FJ hl3 hu3 hs) k))
theorem PN(hfo:Ad P t f=some fo)(ha:Ch P t2=some false)(hb:Ae w b us T)(hu3:P.underlying t3=some (.slice e))(hs:AD c w S xs v)
 (k:QL P N ops w Qa rest (Bq (Bq (Bq K o.dst (.pointer (some ⟨b,0+fo,none⟩))) o2.dst v) o3.dst (.int .i64 xs.length))) (hv:us[0+fo]? =some v:=by rfl)
 (h0:Fm N ops K o= .yes:=by rfl) (hi:YO K o.op=some (t,f,b,0):=by rfl) (h2:Fm N ops (Bq K o.dst (.pointer (some ⟨b,0+fo,none⟩))) o2= .yes:=by rfl)
 (hl:Qx (Bq K o.dst (.pointer (some ⟨b,0+fo,none⟩))) o2.op=some (t2,b,0+fo):=by rfl) (h3:Fm N ops (Bq (Bq K o.dst (.pointer (some ⟨b,0+fo,none⟩))) o2.dst v) o3= .yes:=by rfl)
 (hl3:cN (Bq (Bq K o.dst (.pointer (some ⟨b,0+fo,none⟩))) o2.dst v) o3.op=some (t3,v):=by rfl):QL P N ops w Qa (o::o2::o3::rest) K:=
 Qy h0 (BX hi hfo) (Qy h2 (DO hl ha hb hv) (Qy h3 (FJ hl3 hu3 hs) k))
end
end
/-! ## A fork one of whose ways returns at once -/
section
variable (N:Nat)
def RX:Nat->Md->List Frame->KL->Option KL
 |0=>fun _ _ _=>none
 |n+1=>fun m fs K=>match m with
  | .c c=>match c with
   | .seq x y=>RX n (.c x) (.seq y::fs) K
   | .region _ ops false=>RX n (.o ops ops.toList) fs K
   | .block id x=>RX n (.c x) (.blk id::fs) K
   | .skip=>RX n (.e .normal) fs K
   | .exit id=>RX n (.e (.exit id)) fs K
   | .ret=>RX n (.e .ret) fs K
   |_=>none
  | .o ops l=>match l with
   |[]=>RX n (.e .normal) fs K
   |o::rest=>match Fm N ops K o with
    | .yes=>match yq K o.op with
     |some v=>RX n (.o ops rest) fs (Bq K o.dst v)
     |none=>none
    | .skip=>RX n (.o ops rest) fs (Bq K o.dst undef)
    | .no=>none
  | .e e=>match fs with
   |[]=>match e with
    | .ret=>some K
    |_=>none
   | .seq c::fs=>match e with
    | .normal=>RX n (.c c) fs K
    | .ret=>RX n (.e .ret) fs K
    | .exit id=>RX n (.e (.exit id)) fs K
    |_=>none
   | .blk id::fs=>match e with
    | .normal=>RX n (.e .normal) fs K
    | .ret=>RX n (.e .ret) fs K
    | .exit id'=>bif Nat.beq id' id then RX n (.e .normal) fs K else RX n (.e (.exit id')) fs K
    |_=>none
   | .lp f::fs=>match e with
    | .ret=>RX n (.e .ret) fs K
    | .exit id=>RX n (.e (.exit id)) fs K
    |_=>none
end
section
variable {P:Program} {N:Nat} {Q0:Exit -> Act -> World -> Prop}
theorem RX.ok:∀(n:Nat) {m:Md} {fs:List Frame} {K K':KL} {w:World},RX N n m fs K=some K'->NX N Q0 .ret K' w->kC P N Q0 m fs K w
 |0,_,_,_,_,_,h,_=>by cases h
 |n+1,m,fs,K,K',w,h,q=>by
  cases m with
  |c c=>
   cases c with
   |seq x y=>exact WC.seq (RX.ok n h q)
   |region id ops d=>
    cases d with
    |false=>
     have h2:TL P N ops (GC P Q0 fs) ops.toList K w:=RX.ok n h q
     show WC P N (.region id ops false) (GC P Q0 fs) K w
     have:ops=ops.toList.toArray:=by simp
     rw [this];rw [this]at h2
     exact WC.region (by simpa using h2)
    |true=>cases h
   |block id x=>exact WC.block (RX.ok n h q)
   |skip=>exact WC.skip' (RX.ok n h q)
   |exit id=>exact WC.exit' (RX.ok n h q)
   |ret=>exact WC.ret' (RX.ok n h q)
   |cond _ _ _=>cases h
   |loop _=>cases h
   |_=>cases h
  |o ops l=>
   cases l with
   |nil=>exact TL.done (RX.ok n h q)
   |cons o rest=>
    simp only [RX]at h
    split at h
    ·rename_i hg
     split at h
     ·rename_i v hv;exact Yl hg (NJ hv) (RX.ok n h q)
     ·cases h
    ·rename_i hg;exact Sk hg (RX.ok n h q)
    ·cases h
  |e e=>
   cases fs with
   |nil=>
    cases e with
    |ret=>obtain rfl:=Option.some.inj h;exact q
    |_=>cases h
   |cons f fs=>
    cases f with
    |seq c=>
     cases e with
     |normal=>exact NX.seq (RX.ok n h q)
     |ret=>exact NX.then_r (RX.ok n h q)
     |exit id=>exact NX.then_e (RX.ok n h q)
     |_=>cases h
    |blk id=>
     cases e with
     |normal=>exact NX.blk_n (RX.ok n h q)
     |ret=>exact NX.blk_r (RX.ok n h q)
     |exit id'=>
      simp only [RX]at h
      cases hb:Nat.beq id' id with
      |true=>
       rw [hb]at h
       obtain rfl:=Nat.eq_of_beq_eq_true hb
       exact NX.blk_hit (RX.ok n h q)
      |false=>rw [hb]at h;exact NX.blk_miss hb (RX.ok n h q)
     |_=>cases h
    |lp f=>
     cases e with
     |normal=>cases h
     |ret=>exact NX.then_r (RX.ok n h q)
     |exit id=>exact NX.then_e (RX.ok n h q)
     |_=>cases h
def RV(N n:Nat)(m:Md)(fs:List Frame)(K:KL)(rs:List ResultVar):Option Value:=match RX N n m fs K with
 |some K'=>match Tk K' rs with
  |some vs=>some (EV vs)
  |none=>none
 |none=>none
theorem RV.ok{n:Nat}{m:Md}{fs:List Frame}{K:KL}{w:World}{fn:Func}{v:Value}{R:Ending->World->Prop}(h:RV N n m fs K fn.results.toList=some v)(hR:R (.returned v) w):kC P N (bodyPost P fn R) m fs K w:=by
 unfold RV at h
 split at h
 ·rename_i K' h1
  split at h
  ·rename_i vs h2
   obtain rfl:=Option.some.inj h
   exact RX.ok n h1 (Ne (by simp) h2 hR)
  ·cases h
 ·cases h
variable {α:Type} {c:Operand} {x y:Code} {t:Bool} {u:α} {A B:Option α} {r:α} {v:Value} {X:World -> Prop} {fn:Func} {fs:List Frame} {K:KL} {w:World}
theorem Wt(hF:(bif t then some u else B)=some r)(hX:X w)(k:B=some r->WC P N y (GC P (bodyPost P fn (Dn fun z U=>z=v∧X U)) fs) K w)(hc:CL K c=some (.bool t):=by rfl)(hv:u=r->RV N 99 (.c x) fs K fn.results.toList=some v:=by intro h;subst h;rfl):
 WC P N (.cond c x y) (GC P (bodyPost P fn (Dn fun z U=>z=v∧X U)) fs) K w:=
 Wc hc hF (fun h=>RV.ok (m:=.c x) (hv (Pp h)) ⟨_,rfl,rfl,hX⟩) k
theorem Wf(hF:(bif t then A else some u)=some r)(hX:X w)(k:A=some r->WC P N x (GC P (bodyPost P fn (Dn fun z U=>z=v∧X U)) fs) K w)(hc:CL K c=some (.bool t):=by rfl)(hv:u=r->RV N 99 (.c y) fs K fn.results.toList=some v:=by intro h;subst h;rfl):
 WC P N (.cond c x y) (GC P (bodyPost P fn (Dn fun z U=>z=v∧X U)) fs) K w:=
 Wc hc hF k fun h=>RV.ok (m:=.c y) (hv (Pp h)) ⟨_,rfl,rfl,hX⟩
theorem Ys{c:Code}(hF:some u=some r)(hX:X w)(hv:u=r->RV N 99 (.c c) fs K fn.results.toList=some v:=by intro h;subst h;rfl):WC P N c (GC P (bodyPost P fn (Dn fun z U=>z=v∧X U)) fs) K w:=RV.ok (m:=.c c) (hv (Pp hF)) ⟨_,rfl,rfl,hX⟩
theorem Dv{ops:Array Oper}{l:List Oper}(hF:some u=some r)(hX:X w)(hv:u=r->RV N 99 (.o ops l) fs K fn.results.toList=some v:=by intro h;subst h;rfl):TL P N ops (GC P (bodyPost P fn (Dn fun z U=>z=v∧X U)) fs) l K w:=RV.ok (m:=.o ops l) (hv (Pp hF)) ⟨_,rfl,rfl,hX⟩
theorem Py{e:Exit}(hF:some u=some r)(hX:X w)(hv:u=r->RV N 99 (.e e) fs K fn.results.toList=some v:=by intro h;subst h;rfl):NX N (GC P (bodyPost P fn (Dn fun z U=>z=v∧X U)) fs) e K w:=RV.ok (m:=.e e) (hv (Pp hF)) ⟨_,rfl,rfl,hX⟩
end
section
variable {κ ρ s1 s2 s3 s4 s5 s6 s7 s8:Type} {r:ρ} {k:κ}
theorem RC{L:κ->s1->s2->Option ρ}{a b}(h:L k a b=some r):∃k',k'=k∧L k' a b=some r:=⟨k,rfl,h⟩
theorem Kz{L:κ->s1->s2->s3->Option ρ}{a b c}(h:L k a b c=some r):∃k',k'=k∧L k' a b c=some r:=⟨k,rfl,h⟩
theorem Xv{L:κ->s1->s2->s3->s4->Option ρ}{a b c d}(h:L k a b c d=some r):∃k',k'=k∧L k' a b c d=some r:=⟨k,rfl,h⟩
theorem Wu{L:κ->s1->s2->s3->s4->s5->Option ρ}{a b c d e}(h:L k a b c d e=some r):∃k',k'=k∧L k' a b c d e=some r:=⟨k,rfl,h⟩
theorem rK{L:κ->s1->s2->s3->s4->s5->s6->Option ρ}{a b c d e f}(h:L k a b c d e f=some r):∃k',k'=k∧L k' a b c d e f=some r:=⟨k,rfl,h⟩
theorem nK{L:κ->s1->s2->s3->s4->s5->s6->s7->Option ρ}{a b c d e f g}(h:L k a b c d e f g=some r):∃k',k'=k∧L k' a b c d e f g=some r:=⟨k,rfl,h⟩
theorem mT{L:κ->s1->s2->s3->s4->s5->s6->s7->s8->Option ρ}{a b c d e f g i}(h:L k a b c d e f g i=some r):∃k',k'=k∧L k' a b c d e f g i=some r:=⟨k,rfl,h⟩
end
/-! ## Guards whose ways leave the world alone -/
section
variable {P:Program} {N:Nat} {Q0:Exit -> Act -> World -> Prop} {K K':KL} {w:World} {fs:List Frame} {ops:Array Oper} {l:List Oper} {Q:Exit -> Act -> World -> Prop} {Qa:Act -> Prop}
theorem Cl(e:K'.map (fun p=>kl K p.1)=K'.map (fun p=>some p.2):=by rfl):TL P N ops (GC P Q0 (.lp (fun a u=>Kn N K' a∧u=w)::fs)) [] K w:=TL.nil fun _ h=>⟨h.sub e,rfl⟩
theorem Rk(k:Nat)(is:List Nat)(j:Nat)(c:Bool){K1:KL}(hk:Od K is [(j,.bool c)]=some K1)(h1:TL P N ops (GC P Q0 (.lp (fun a' w'=>Kn N K1 a'∧w'=w)::fs)) (l.take k) K w)(h2:TL P N ops (GC P Q0 fs) (l.drop k) K1 w):
 TL P N ops (GC P Q0 fs) l K w:=TL.cutD k K1 (fun w'=>w'=w) h1 fun w' e=>e▸h2
def Jc(N:Nat)(ops:Array Oper):List Oper->KL->Option KL
 |[],K=>some K
 |o::rest,K=>match Fm N ops K o with
  | .yes=>match yq K o.op with
   |some v=>Jc N ops rest (Bq K o.dst v)
   |none=>none
  | .skip=>Jc N ops rest (Bq K o.dst undef)
  | .no=>none
theorem Jc.ok:∀{l:List Oper} {K K':KL},Jc N ops l K=some K'->TL P N ops Q [] K' w->TL P N ops Q l K w
 |[],K,K',h,q=>by obtain rfl:=Option.some.inj h;exact q
 |o::rest,K,K',h,q=>by
  simp only [Jc]at h
  split at h
  ·rename_i hg
   split at h
   ·rename_i v hv;exact Yl hg (NJ hv) (Jc.ok h q)
   ·cases h
  ·rename_i hg;exact Sk hg (Jc.ok h q)
  ·cases h
theorem Jc.okq:∀{l:List Oper} {K K':KL},Jc N ops l K=some K'->QL P N ops w Qa [] K'->QL P N ops w Qa l K
 |[],K,K',h,q=>by obtain rfl:=Option.some.inj h;exact q
 |o::rest,K,K',h,q=>by
  simp only [Jc]at h
  split at h
  ·rename_i hg
   split at h
   ·rename_i v hv;exact Qy hg (NJ hv) (Jc.okq h q)
   ·cases h
  ·rename_i hg;exact Qs hg (Jc.okq h q)
  ·cases h
theorem Wm{N:Nat}{Kt K1:KL}{t j:Nat}{c x u v:Bool}(e:c=x)(t1:kl Kt t=some (.bool x))(b1:kl Kt j=some (.bool u))(uv:u=v)(e1:K1.map (fun p=>kl ((t,.bool c)::(j,.bool v)::Kt) p.1)=K1.map (fun p=>some p.2))(a:Act)(h:Kn N Kt a):Kn N K1 a:=by
 subst uv
 refine Kn.sub (Kn.know (u:=.bool x) (h.know b1 rfl) ?_ (by rw [e])) e1
 cases hb:Nat.beq j t with
 |false=>simpa [kl,hb] using t1
 |true=>obtain rfl:=Nat.eq_of_beq_eq_true hb;rw [b1]at t1;simpa [kl] using t1
section
variable {c b:Bool} {K1 Kt Kf:KL}
theorem Qf(k:Nat)(is:List Nat)(j t:Nat)(k2:TL P N ops (GC P Q0 fs) (l.drop k) K1 w)(ha:kl K t=some (.bool c):=by rfl)
 (h1:Jc N ops (l.take k) ((t,.bool true)::K)=some Kt:=by rfl) (b1:kl Kt j=some (.bool b):=by rfl) (t1:kl Kt t=some (.bool true):=by rfl)
 (h2:Jc N ops (l.take k) ((t,.bool false)::K)=some Kf:=by rfl) (b2:kl Kf j=some (.bool false):=by rfl) (t2:kl Kf t=some (.bool false):=by rfl) (hk:Od K is [(j,.bool (c&&b))]=some K1:=by rfl)
 (e1:K1.map (fun p=>kl ((t,.bool c)::(j,.bool (c&&b))::Kt) p.1)=K1.map (fun p=>some p.2):=by rfl) (e2:K1.map (fun p=>kl ((t,.bool c)::(j,.bool (c&&b))::Kf) p.1)=K1.map (fun p=>some p.2):=by rfl):TL P N ops (GC P Q0 fs) l K w:=
 Rk k is j (c&&b) hk (Kd t ha (fun e=>Jc.ok h1 (TL.nil fun a h=>⟨Wm e t1 b1 (kA e) e1 a h,rfl⟩)) fun e=>Jc.ok h2 (TL.nil fun a h=>⟨Wm e t2 b2 (kM e) e2 a h,rfl⟩)) k2
theorem bV(k:Nat)(is:List Nat)(j t:Nat)(k2:TL P N ops (GC P Q0 fs) (l.drop k) K1 w)(ha:kl K t=some (.bool c):=by rfl)
 (h1:Jc N ops (l.take k) ((t,.bool true)::K)=some Kt:=by rfl) (b1:kl Kt j=some (.bool true):=by rfl) (t1:kl Kt t=some (.bool true):=by rfl)
 (h2:Jc N ops (l.take k) ((t,.bool false)::K)=some Kf:=by rfl) (b2:kl Kf j=some (.bool b):=by rfl) (t2:kl Kf t=some (.bool false):=by rfl) (hk:Od K is [(j,.bool (c||b))]=some K1:=by rfl)
 (e1:K1.map (fun p=>kl ((t,.bool c)::(j,.bool (c||b))::Kt) p.1)=K1.map (fun p=>some p.2):=by rfl) (e2:K1.map (fun p=>kl ((t,.bool c)::(j,.bool (c||b))::Kf) p.1)=K1.map (fun p=>some p.2):=by rfl):TL P N ops (GC P Q0 fs) l K w:=
 Rk k is j (c||b) hk (Kd t ha (fun e=>Jc.ok h1 (TL.nil fun a h=>⟨Wm e t1 b1 (dC e) e1 a h,rfl⟩)) fun e=>Jc.ok h2 (TL.nil fun a h=>⟨Wm e t2 b2 (cY e) e2 a h,rfl⟩)) k2
theorem HN(k:Nat)(is:List Nat)(j t:Nat)(b:Bool){c:Bool}{K1 Kx Kf:KL}(hx:Od ((t,.bool true)::K) (t::is) [(j,.bool b)]=some Kx)(h1:TL P N ops (GC P Q0 (.lp (fun a' w'=>Kn N Kx a'∧w'=w)::fs)) (l.take k) ((t,.bool true)::K) w)(k2:TL P N ops (GC P Q0 fs) (l.drop k) K1 w)(ha:kl K t=some (.bool c):=by rfl)
 (h2:Jc N ops (l.take k) ((t,.bool false)::K)=some Kf:=by rfl) (b2:kl Kf j=some (.bool false):=by rfl) (t2:kl Kf t=some (.bool false):=by rfl) (hk:Od K is [(j,.bool (c&&b))]=some K1:=by rfl) (b1:kl Kx j=some (.bool b):=by rfl) (t1:kl Kx t=some (.bool true):=by rfl)
 (e1:K1.map (fun p=>kl ((t,.bool c)::(j,.bool (c&&b))::Kx) p.1)=K1.map (fun p=>some p.2):=by rfl) (e2:K1.map (fun p=>kl ((t,.bool c)::(j,.bool (c&&b))::Kf) p.1)=K1.map (fun p=>some p.2):=by rfl):TL P N ops (GC P Q0 fs) l K w:=
 Kd t ha (fun e=>TL.cutD k Kx (fun w'=>w'=w) h1 fun w' q=>q▸fun a hK=>k2 a (Wm e t1 b1 (kA e) e1 a hK)) fun e=>TL.cutD k Kf (fun w'=>w'=w) (Jc.ok h2 (TL.nil fun a h=>⟨h,rfl⟩)) fun w' q=>q▸fun a hK=>k2 a (Wm e t2 b2 (kM e) e2 a hK)
theorem PO(k:Nat)(is:List Nat)(j t:Nat)(b:Bool){c:Bool}{K1 Kx Kf:KL}(hx:Od ((t,.bool false)::K) (t::is) [(j,.bool b)]=some Kx)(h1:TL P N ops (GC P Q0 (.lp (fun a' w'=>Kn N Kx a'∧w'=w)::fs)) (l.take k) ((t,.bool false)::K) w)(k2:TL P N ops (GC P Q0 fs) (l.drop k) K1 w)(ha:kl K t=some (.bool c):=by rfl)
 (h2:Jc N ops (l.take k) ((t,.bool true)::K)=some Kf:=by rfl) (b2:kl Kf j=some (.bool true):=by rfl) (t2:kl Kf t=some (.bool true):=by rfl) (hk:Od K is [(j,.bool (c||b))]=some K1:=by rfl) (b1:kl Kx j=some (.bool b):=by rfl) (t1:kl Kx t=some (.bool false):=by rfl)
 (e1:K1.map (fun p=>kl ((t,.bool c)::(j,.bool (c||b))::Kx) p.1)=K1.map (fun p=>some p.2):=by rfl) (e2:K1.map (fun p=>kl ((t,.bool c)::(j,.bool (c||b))::Kf) p.1)=K1.map (fun p=>some p.2):=by rfl):TL P N ops (GC P Q0 fs) l K w:=
 Kd t ha (fun e=>TL.cutD k Kf (fun w'=>w'=w) (Jc.ok h2 (TL.nil fun a h=>⟨h,rfl⟩)) fun w' q=>q▸fun a hK=>k2 a (Wm e t2 b2 (dC e) e2 a hK)) fun e=>TL.cutD k Kx (fun w'=>w'=w) h1 fun w' q=>q▸fun a hK=>k2 a (Wm e t1 b1 (cY e) e1 a hK)
theorem Vb(k:Nat)(is:List Nat)(j t:Nat)(b:Bool){c:Bool}{K1 Kx Kf:KL}(hx:Od ((t,.bool true)::K) (t::is) [(j,.bool b)]=some Kx)(h1:QL P N ops w (fun a'=>Kn N Kx a') (l.take k) ((t,.bool true)::K))(k2:QL P N ops w Qa (l.drop k) K1)(ha:kl K t=some (.bool c):=by rfl)
 (h2:Jc N ops (l.take k) ((t,.bool false)::K)=some Kf:=by rfl) (b2:kl Kf j=some (.bool false):=by rfl) (t2:kl Kf t=some (.bool false):=by rfl) (hk:Od K is [(j,.bool (c&&b))]=some K1:=by rfl) (b1:kl Kx j=some (.bool b):=by rfl) (t1:kl Kx t=some (.bool true):=by rfl)
 (e1:K1.map (fun p=>kl ((t,.bool c)::(j,.bool (c&&b))::Kx) p.1)=K1.map (fun p=>some p.2):=by rfl) (e2:K1.map (fun p=>kl ((t,.bool c)::(j,.bool (c&&b))::Kf) p.1)=K1.map (fun p=>some p.2):=by rfl):QL P N ops w Qa l K:=
 pM t ha (fun e=>QL.cut k Kx h1 fun a hK=>k2 a (Wm e t1 b1 (kA e) e1 a hK)) fun e=>QL.cut k Kf (Jc.okq h2 (QL.nil fun a h=>h)) fun a hK=>k2 a (Wm e t2 b2 (kM e) e2 a hK)
end
theorem GG{β:Type}{A:Option Bool}{g:Bool->Option β}{r:β}{c:Bool}{K1 Kx:Bool->KL}{Kf:KL}(k:Nat)(is:List Nat)(j t:Nat)(hF:Option.bind (bif c then A else some false) g=some r)(h1:∀b,A=some b->TL P N ops (GC P Q0 (.lp (fun a' w'=>Kn N (Kx b) a'∧AR w w')::fs)) (l.take k) ((t,.bool true)::K) w)(k2:∀b,g b=some r->∀w',AR w w'->TL P N ops (GC P Q0 fs) (l.drop k) (K1 b) w')(ha:kl K t=some (.bool c):=by rfl)
 (hx:∀b,Od ((t,.bool true)::K) (t::is) [(j,.bool b)]=some (Kx b):=by intro _;rfl) (hk:∀b,Od K is [(j,.bool b)]=some (K1 b):=by intro _;rfl) (h2:Jc N ops (l.take k) ((t,.bool false)::K)=some Kf:=by rfl)
 (t1:∀b,kl (Kx b) t=some (.bool true):=by intro _;rfl) (t2:kl Kf t=some (.bool false):=by rfl)
 (e1:∀b,(K1 b).map (fun p=>kl ((t,.bool c)::Kx b) p.1)=(K1 b).map (fun p=>some p.2):=by intro _;rfl) (e2:(K1 false).map (fun p=>kl ((t,.bool c)::Kf) p.1)=(K1 false).map (fun p=>some p.2):=by rfl):TL P N ops (GC P Q0 fs) l K w:=by
 obtain⟨b,hb,h3⟩:=AK hF
 refine Kd t ha (fun e=>?_) fun e=>?_
 ·replace hb:=ND e hb;exact TL.cutD k (Kx b) (fun w'=>AR w w') (h1 b hb) fun w' q a hK=>k2 b h3 w' q a ((hK.know (t1 b) (by rw [e])).sub (e1 b))
 ·replace hb:=NC e hb;obtain rfl:=Pp hb;exact TL.cutD k Kf (fun w'=>AR w w') (Jc.ok h2 (TL.nil fun a h=>⟨h,AR.refl _⟩)) fun w' q a hK=>k2 _ h3 w' q a ((hK.know t2 (by rw [e])).sub e2)
theorem NE{β:Type}{A:Option Bool}{g:Bool->Option β}{r:β}{c:Bool}{K1 Kx:Bool->KL}{Kf:KL}(k:Nat)(is:List Nat)(j t:Nat)(hF:Option.bind (bif c then some true else A) g=some r)(h1:∀b,A=some b->TL P N ops (GC P Q0 (.lp (fun a' w'=>Kn N (Kx b) a'∧AR w w')::fs)) (l.take k) ((t,.bool false)::K) w)(k2:∀b,g b=some r->∀w',AR w w'->TL P N ops (GC P Q0 fs) (l.drop k) (K1 b) w')(ha:kl K t=some (.bool c):=by rfl)
 (hx:∀b,Od ((t,.bool false)::K) (t::is) [(j,.bool b)]=some (Kx b):=by intro _;rfl) (hk:∀b,Od K is [(j,.bool b)]=some (K1 b):=by intro _;rfl) (h2:Jc N ops (l.take k) ((t,.bool true)::K)=some Kf:=by rfl)
 (t1:∀b,kl (Kx b) t=some (.bool false):=by intro _;rfl) (t2:kl Kf t=some (.bool true):=by rfl)
 (e1:∀b,(K1 b).map (fun p=>kl ((t,.bool c)::Kx b) p.1)=(K1 b).map (fun p=>some p.2):=by intro _;rfl) (e2:(K1 true).map (fun p=>kl ((t,.bool c)::Kf) p.1)=(K1 true).map (fun p=>some p.2):=by rfl):TL P N ops (GC P Q0 fs) l K w:=by
 obtain⟨b,hb,h3⟩:=AK hF
 refine Kd t ha (fun e=>?_) fun e=>?_
 ·replace hb:=ND e hb;obtain rfl:=Pp hb;exact TL.cutD k Kf (fun w'=>AR w w') (Jc.ok h2 (TL.nil fun a h=>⟨h,AR.refl _⟩)) fun w' q a hK=>k2 _ h3 w' q a ((hK.know t2 (by rw [e])).sub e2)
 ·replace hb:=NC e hb;exact TL.cutD k (Kx b) (fun w'=>AR w w') (h1 b hb) fun w' q a hK=>k2 b h3 w' q a ((hK.know (t1 b) (by rw [e])).sub (e1 b))
theorem Ey{β:Type}{A:Option Bool}{g:Bool->Option β}{r:β}{c:Bool}{K1 Kx:Bool->KL}{Kf:KL}(k:Nat)(is:List Nat)(j t:Nat)(hF:Option.bind (bif c then A else some false) g=some r)(h1:∀b,A=some b->TL P N ops (GC P Q0 (.lp (fun a' w'=>Kn N (Kx b) a'∧w'=w)::fs)) (l.take k) ((t,.bool true)::K) w)(k2:∀b,g b=some r->TL P N ops (GC P Q0 fs) (l.drop k) (K1 b) w)(ha:kl K t=some (.bool c):=by rfl)
 (hx:∀b,Od ((t,.bool true)::K) (t::is) [(j,.bool b)]=some (Kx b):=by intro _;rfl) (hk:∀b,Od K is [(j,.bool b)]=some (K1 b):=by intro _;rfl) (h2:Jc N ops (l.take k) ((t,.bool false)::K)=some Kf:=by rfl)
 (t1:∀b,kl (Kx b) t=some (.bool true):=by intro _;rfl) (t2:kl Kf t=some (.bool false):=by rfl)
 (e1:∀b,(K1 b).map (fun p=>kl ((t,.bool c)::Kx b) p.1)=(K1 b).map (fun p=>some p.2):=by intro _;rfl) (e2:(K1 false).map (fun p=>kl ((t,.bool c)::Kf) p.1)=(K1 false).map (fun p=>some p.2):=by rfl):TL P N ops (GC P Q0 fs) l K w:=by
 obtain⟨b,hb,h3⟩:=AK hF
 refine Kd t ha (fun e=>?_) fun e=>?_
 ·replace hb:=ND e hb;exact TL.cutD k (Kx b) (fun w'=>w'=w) (h1 b hb) fun w' q=>q▸fun a hK=>k2 b h3 a ((hK.know (t1 b) (by rw [e])).sub (e1 b))
 ·replace hb:=NC e hb;obtain rfl:=Pp hb;exact TL.cutD k Kf (fun w'=>w'=w) (Jc.ok h2 (TL.nil fun a h=>⟨h,rfl⟩)) fun w' q=>q▸fun a hK=>k2 _ h3 a ((hK.know t2 (by rw [e])).sub e2)
theorem Jn{β:Type}{A:Option Bool}{g:Bool->Option β}{r:β}{c:Bool}{K1 Kx:Bool->KL}{Kf:KL}(k:Nat)(is:List Nat)(j t:Nat)(hF:Option.bind (bif c then some true else A) g=some r)(h1:∀b,A=some b->TL P N ops (GC P Q0 (.lp (fun a' w'=>Kn N (Kx b) a'∧w'=w)::fs)) (l.take k) ((t,.bool false)::K) w)(k2:∀b,g b=some r->TL P N ops (GC P Q0 fs) (l.drop k) (K1 b) w)(ha:kl K t=some (.bool c):=by rfl)
 (hx:∀b,Od ((t,.bool false)::K) (t::is) [(j,.bool b)]=some (Kx b):=by intro _;rfl) (hk:∀b,Od K is [(j,.bool b)]=some (K1 b):=by intro _;rfl) (h2:Jc N ops (l.take k) ((t,.bool true)::K)=some Kf:=by rfl)
 (t1:∀b,kl (Kx b) t=some (.bool false):=by intro _;rfl) (t2:kl Kf t=some (.bool true):=by rfl)
 (e1:∀b,(K1 b).map (fun p=>kl ((t,.bool c)::Kx b) p.1)=(K1 b).map (fun p=>some p.2):=by intro _;rfl) (e2:(K1 true).map (fun p=>kl ((t,.bool c)::Kf) p.1)=(K1 true).map (fun p=>some p.2):=by rfl):TL P N ops (GC P Q0 fs) l K w:=by
 obtain⟨b,hb,h3⟩:=AK hF
 refine Kd t ha (fun e=>?_) fun e=>?_
 ·replace hb:=ND e hb;obtain rfl:=Pp hb;exact TL.cutD k Kf (fun w'=>w'=w) (Jc.ok h2 (TL.nil fun a h=>⟨h,rfl⟩)) fun w' q=>q▸fun a hK=>k2 _ h3 a ((hK.know t2 (by rw [e])).sub e2)
 ·replace hb:=NC e hb;exact TL.cutD k (Kx b) (fun w'=>w'=w) (h1 b hb) fun w' q=>q▸fun a hK=>k2 b h3 a ((hK.know (t1 b) (by rw [e])).sub (e1 b))
theorem Ht{β:Type}{A:Option Bool}{g:Bool->Option β}{r:β}{c:Bool}{K1 Kx:Bool->KL}{Kf:KL}(k:Nat)(is:List Nat)(j t:Nat)(hF:Option.bind (bif c then A else some false) g=some r)(h1:∀b,A=some b->QL P N ops w (fun a'=>Kn N (Kx b) a') (l.take k) ((t,.bool true)::K))(k2:∀b,g b=some r->QL P N ops w Qa (l.drop k) (K1 b))(ha:kl K t=some (.bool c):=by rfl)
 (hx:∀b,Od ((t,.bool true)::K) (t::is) [(j,.bool b)]=some (Kx b):=by intro _;rfl) (hk:∀b,Od K is [(j,.bool b)]=some (K1 b):=by intro _;rfl) (h2:Jc N ops (l.take k) ((t,.bool false)::K)=some Kf:=by rfl)
 (t1:∀b,kl (Kx b) t=some (.bool true):=by intro _;rfl) (t2:kl Kf t=some (.bool false):=by rfl)
 (e1:∀b,(K1 b).map (fun p=>kl ((t,.bool c)::Kx b) p.1)=(K1 b).map (fun p=>some p.2):=by intro _;rfl) (e2:(K1 false).map (fun p=>kl ((t,.bool c)::Kf) p.1)=(K1 false).map (fun p=>some p.2):=by rfl):QL P N ops w Qa l K:=by
 obtain⟨b,hb,h3⟩:=AK hF
 refine pM t ha (fun e=>?_) fun e=>?_
 ·replace hb:=ND e hb;exact QL.cut k (Kx b) (h1 b hb) fun a hK=>k2 b h3 a ((hK.know (t1 b) (by rw [e])).sub (e1 b))
 ·replace hb:=NC e hb;obtain rfl:=Pp hb;exact QL.cut k Kf (Jc.okq h2 (QL.nil fun a h=>h)) fun a hK=>k2 _ h3 a ((hK.know t2 (by rw [e])).sub e2)
theorem Mp{β:Type}{A:Option Bool}{g:Bool->Option β}{r:β}{c:Bool}{K1 Kx:Bool->KL}{Kf:KL}(k:Nat)(is:List Nat)(j t:Nat)(hF:Option.bind (bif c then some true else A) g=some r)(h1:∀b,A=some b->QL P N ops w (fun a'=>Kn N (Kx b) a') (l.take k) ((t,.bool false)::K))(k2:∀b,g b=some r->QL P N ops w Qa (l.drop k) (K1 b))(ha:kl K t=some (.bool c):=by rfl)
 (hx:∀b,Od ((t,.bool false)::K) (t::is) [(j,.bool b)]=some (Kx b):=by intro _;rfl) (hk:∀b,Od K is [(j,.bool b)]=some (K1 b):=by intro _;rfl) (h2:Jc N ops (l.take k) ((t,.bool true)::K)=some Kf:=by rfl)
 (t1:∀b,kl (Kx b) t=some (.bool false):=by intro _;rfl) (t2:kl Kf t=some (.bool true):=by rfl)
 (e1:∀b,(K1 b).map (fun p=>kl ((t,.bool c)::Kx b) p.1)=(K1 b).map (fun p=>some p.2):=by intro _;rfl) (e2:(K1 true).map (fun p=>kl ((t,.bool c)::Kf) p.1)=(K1 true).map (fun p=>some p.2):=by rfl):QL P N ops w Qa l K:=by
 obtain⟨b,hb,h3⟩:=AK hF
 refine pM t ha (fun e=>?_) fun e=>?_
 ·replace hb:=ND e hb;obtain rfl:=Pp hb;exact QL.cut k Kf (Jc.okq h2 (QL.nil fun a h=>h)) fun a hK=>k2 _ h3 a ((hK.know t2 (by rw [e])).sub e2)
 ·replace hb:=NC e hb;exact QL.cut k (Kx b) (h1 b hb) fun a hK=>k2 b h3 a ((hK.know (t1 b) (by rw [e])).sub (e1 b))
end
theorem IP{P:Program}{N:Nat}{K:KL}{w:World}{fn:Func}{p ty b T:Nat}{us:List Value}{R:Ending->World->Prop}(hb:Ae w b us T)(ha:Ch P ty=some true)(hn:BP P ty=some us.length)(hR:R (.returned (.agg us.toArray)) w)
 (hr:fn.results=List.toArray [.cell p ty]:=by rfl) (hk:kl K p=some (.pointer (some ⟨b,0,none⟩)):=by rfl):NX N (bodyPost P fn R) .ret K w:=
 NX.end (vs:=[.agg us.toArray]) hr ⟨⟨b,hk,BB ha hn hb⟩,trivial⟩ hR
end Go.Eng
