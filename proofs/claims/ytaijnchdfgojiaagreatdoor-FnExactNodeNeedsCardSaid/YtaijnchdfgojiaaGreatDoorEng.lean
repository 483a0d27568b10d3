/- The proof engine: what a function of the model computes, said by a plain function; no condition. -/
import Derived.WalkKit
import Derived.WalkSpells
import Derived.WalkLawsBesides
import Derived.Deep.QuietTactic
import Derived.Deep.Slices
import Derived.StillTailTactics
import Derived.OrdersHeld
import Derived.StillTail
import Derived.Carry
import Derived.ChangeSame
import Derived.Handed
import Derived.WideShapes
import Derived.ProofKit
import Derived.Laws.Cover3
import Derived.Laws.BytesString
import Derived.LaidLaws
import Derived.Stop.Joined
import Derived.Laws.StructEq
import Derived.KernelRfl
import Derived.RangeFuncFrom
import Derived.RangeFuncLeaves
import Derived.RangeFuncCalls
import Derived.OrdersIn
import Derived.TacticsInMore
set_option linter.all false
namespace Go.Eng
open Go Go.RowKit
/-! ## Frames: what is known of the slots -/
abbrev KL:=List (Nat×Value)
def kl:KL->Nat->Option Value
 |[],_=>none
 |(s,v)::K,t=>bif Nat.beq s t then some v else kl K t
structure Kn(N:Nat)(K:KL)(a:Act):Prop where
 df:a.defers=[]
 sz:N<=a.tmps.size
 get:∀t v,kl K t=some v->a.tmps[t]? =some v
def CL(K:KL):Operand->Option Value
 | .tmp t=>kl K t
 | .const v=>some v
 | .func f=>some (.func (.func f) #[] #[])
 |_=>none
theorem Kn.ev{N K a x v}(h:Kn N K a)(hx:CL K x=some v):a.eval x=v:=by
 cases x with
 |tmp t=>have:=h.get t v hx;simp [Act.eval,Array.getD_eq_getD_getElem?,this]
 |const c=>simpa [Act.eval,CL] using hx
 |func f=>simpa [Act.eval,CL] using hx
 |global g=>simp [CL]at hx
def BT(K:KL):Option Tmp->Value->KL
 |some d,v=>(d,v)::K
 |none,_=>K
theorem Kn.put{N K a v}{d:Option Tmp}(h:Kn N K a)(hd:∀t,d=some t->Nat.blt t N=true):Kn N (BT K d v) (a.put d v):=by
 cases d with
 |none=>exact h
 |some d=>
  have hdn:d<N:=by have:=hd d rfl;simpa [Nat.blt,Nat.succ_le_iff] using this
  refine⟨h.df,by simpa [Act.put] using h.sz,fun t u ht=>?_⟩
  have hsz:=h.sz
  simp only [BT,kl]at ht
  by_cases e:d=t
  ·subst e
   simp at ht
   subst ht
   have hlt:d<a.tmps.size:=Nat.lt_of_lt_of_le hdn hsz
   simp [Act.put,hlt]
  ·have hb:Nat.beq d t=false:=by cases hq:Nat.beq d t with
   |false=>rfl
   |true=>exact absurd (Nat.eq_of_beq_eq_true hq) e
   rw [hb]at ht
   have:=h.get t u (by simpa using ht)
   simp [Act.put,Array.getElem?_setIfInBounds,e,this]
def eQ:KL->KL->Prop
 |[],_=>True
 |(t,v)::K',K=>kl K t=some v∧eQ K' K
theorem Kn.weaken{N K K' a}(h:Kn N K a)(hk:eQ K' K):Kn N K' a:=by
 refine⟨h.df,h.sz,fun t v ht=>h.get t v ?_⟩
 induction K' with
 |nil=>simp [kl]at ht
 |cons p K' ih=>
  obtain⟨s,u⟩:=p
  obtain⟨h1,h2⟩:=hk
  simp only [kl]at ht
  by_cases e:s=t
  ·subst e;simp at ht;subst ht;exact h1
  ·have hb:Nat.beq s t=false:=by cases hq:Nat.beq s t with
   |false=>rfl
   |true=>exact absurd (Nat.eq_of_beq_eq_true hq) e
   rw [hb]at ht
   exact ih h2 (by simpa using ht)
/-! ## Worlds -/
abbrev AD(w w':World):Prop:=Below w.heap.size w w'
theorem AD.refl(w:World):AD w w:=Below.refl _ _
theorem AD.trans{a b c:World}(h:AD a b)(k:AD b c):AD a c:=Below.trans h (k.mono h.size)
theorem AD.drew(w:World):AD w w.drew:=(Below.refl _ _).drew
theorem AD.alloc(w:World)(o:Obj):AD w (w.alloc o):=(Below.refl _ _).alloc (Nat.le_refl _) o
/-! ## Text order -/
section
variable {P:Program} {N:Nat}
def TL(P:Program)(N:Nat)(ops:Array Oper)(Q:Exit->Act->World->Prop)(l:List Oper)(K:KL)(w:World):Prop:=
 ∀a,Kn N K a->wpList P ops Q l a w
def WC(P:Program)(N:Nat)(c:Code)(Q:Exit->Act->World->Prop)(K:KL)(w:World):Prop:=
 ∀a,Kn N K a->c.wp P Q a w
def Ec(P:Program)(N:Nat)(K:KL)(o:Oper)(w:World)(v:Value):Prop:=
 ∀a,Kn N K a->∀w',AD w w'->(execOp a.eval o).run P w'= .ok (.value v) w'
def MG(P:Program)(N:Nat)(K:KL)(o:Oper)(w:World)(R:Value->World->Prop):Prop:=
 ∀a,Kn N K a->∀(Kt:Act->World->Prop) Q,(∀v w',R v w'->Kt (a.put o.dst v) w')->o.wp P a w Kt Q
def Cy(N:Nat):Option Tmp->Bool
 |none=>true
 |some d=>Nat.blt d N
theorem Cy.h{N:Nat}{d:Option Tmp}(h:Cy N d=true):∀t,d=some t->Nat.blt t N=true:=by
 intro t e;subst e;exact h
theorem Ec.eff{K o w v}(h:Ec P N K o w v):MG P N K o w (fun u w'=>u=v∧w'=w):=by
 intro a hK Kt Q hk
 unfold Oper.wp
 rw [h a hK w (AD.refl w)]
 exact hk v w ⟨rfl,rfl⟩
theorem TL.yld{ops Q o rest K w v}(hg:o.guard=none)(hd:Cy N o.dst=true)(h:Ec P N K o w v)
 (k:TL P N ops Q rest (BT K o.dst v) w):TL P N ops Q (o::rest) K w:=by
 intro a hK
 refine wpList_plain hg fun Kt hKt=>?_
 exact h.eff a hK Kt Q fun u w' ⟨e1,e2⟩=>by subst e1 e2;exact hKt _ _ (k _ (hK.put (Cy.h hd)))
theorem TL.eff{ops Q o rest K w R}(hg:o.guard=none)(hd:Cy N o.dst=true)(h:MG P N K o w R)
 (k:∀v w',R v w'->TL P N ops Q rest (BT K o.dst v) w'):TL P N ops Q (o::rest) K w:=by
 intro a hK
 refine wpList_plain hg fun Kt hKt=>?_
 exact h a hK Kt Q fun u w' hR=>hKt _ _ (k u w' hR _ (hK.put (Cy.h hd)))
theorem TL.nil{ops Q K w}(h:∀a,Kn N K a->Q .normal a w):TL P N ops Q [] K w:=fun a hK=>h a hK
/-! ## Operations -/
section ops
variable {K:KL} {o:Oper} {w:World}
theorem XM{x v}(ho:o.op= .move x)(hx:CL K x=some v):Ec P N K o w v:=by
 intro a hK w' _
 simp [execOp,ho,hK.ev hx]
theorem UO{x v}(ho:o.op= .assign x)(hx:CL K x=some v):Ec P N K o w v:=by
 intro a hK w' _
 simp [execOp,ho,hK.ev hx]
theorem iN{t x y u k m n}(ho:o.op= .binOp .add t x y u)(hx:CL K x=some (.int k m))(hy:CL K y=some (.int k n)):Ec P N K o w (.int k (k.wrap (m+n))):=by
 intro a hK w' _
 simp [execOp,ho,hK.ev hx,hK.ev hy,eqGuard,binOp,Op.intArith]
theorem fY{t x y u k m n}(ho:o.op= .binOp .sub t x y u)(hx:CL K x=some (.int k m))(hy:CL K y=some (.int k n)):Ec P N K o w (.int k (k.wrap (m-n))):=by
 intro a hK w' _
 simp [execOp,ho,hK.ev hx,hK.ev hy,eqGuard,binOp,Op.intArith]
theorem gZ{t x y u k m n}(ho:o.op= .binOp .mul t x y u)(hx:CL K x=some (.int k m))(hy:CL K y=some (.int k n)):Ec P N K o w (.int k (k.wrap (m*n))):=by
 intro a hK w' _
 simp [execOp,ho,hK.ev hx,hK.ev hy,eqGuard,binOp,Op.intArith]
theorem QN{t x y u k m n}(ho:o.op= .binOp .quo t x y u)(hx:CL K x=some (.int k m))(hy:CL K y=some (.int k n))(h0:n≠0):Ec P N K o w (.int k (k.wrap (m.tdiv n))):=by
 intro a hK w' _
 simp [execOp,ho,hK.ev hx,hK.ev hy,eqGuard,binOp,Op.intDiv,h0]
theorem QX{t x y u k m n}(ho:o.op= .binOp .rem t x y u)(hx:CL K x=some (.int k m))(hy:CL K y=some (.int k n))(h0:n≠0):Ec P N K o w (.int k (m.tmod n)):=by
 intro a hK w' _
 simp [execOp,ho,hK.ev hx,hK.ev hy,eqGuard,binOp,Op.intDiv,h0]
theorem jF{t x y u k m n}(ho:o.op= .binOp .lss t x y u)(hx:CL K x=some (.int k m))(hy:CL K y=some (.int k n)):Ec P N K o w (.bool (decide (m<n))):=by
 intro a hK w' _
 simp [execOp,ho,hK.ev hx,hK.ev hy,eqGuard,binOp,Op.intCmp]
theorem fF{t x y u k m n}(ho:o.op= .binOp .leq t x y u)(hx:CL K x=some (.int k m))(hy:CL K y=some (.int k n)):Ec P N K o w (.bool (decide (m<=n))):=by
 intro a hK w' _
 simp [execOp,ho,hK.ev hx,hK.ev hy,eqGuard,binOp,Op.intCmp]
theorem gU{t x y u k m n}(ho:o.op= .binOp .gtr t x y u)(hx:CL K x=some (.int k m))(hy:CL K y=some (.int k n)):Ec P N K o w (.bool (decide (m>n))):=by
 intro a hK w' _
 simp [execOp,ho,hK.ev hx,hK.ev hy,eqGuard,binOp,Op.intCmp]
theorem iI{t x y u k m n}(ho:o.op= .binOp .geq t x y u)(hx:CL K x=some (.int k m))(hy:CL K y=some (.int k n)):Ec P N K o w (.bool (decide (m>=n))):=by
 intro a hK w' _
 simp [execOp,ho,hK.ev hx,hK.ev hy,eqGuard,binOp,Op.intCmp]
theorem fR{t x y u k m n}(ho:o.op= .binOp .eql t x y u)(hx:CL K x=some (.int k m))(hy:CL K y=some (.int k n)):Ec P N K o w (.bool (m==n)):=by
 intro a hK w' _
 simp [execOp,ho,hK.ev hx,hK.ev hy,eqGuard,binOp,Op.intCmp]
theorem fH{t x y u k m n}(ho:o.op= .binOp .neq t x y u)(hx:CL K x=some (.int k m))(hy:CL K y=some (.int k n)):Ec P N K o w (.bool (m !=n)):=by
 intro a hK w' _
 simp [execOp,ho,hK.ev hx,hK.ev hy,eqGuard,binOp,Op.intCmp]
theorem Ni{t m n}{w:World}(ht:P.underlying t=some .bool):(Op.equal t (.bool m) (.bool n)).run P w= .ok (m==n) w:=by
 simp only [Op.equal,Op.maxDepth]
 rw [show(10000:Nat)=9999+1 from rfl,Op.equalIn]
 simp [run_underlying ht]
theorem fO{t x y u m n}(ho:o.op= .binOp .eql t x y u)(ht:P.underlying t=some .bool)(hx:CL K x=some (.bool m))(hy:CL K y=some (.bool n)):Ec P N K o w (.bool (m==n)):=by
 intro a hK w' _
 simp [execOp,ho,hK.ev hx,hK.ev hy,eqGuard,binOp,Ni ht]
theorem Ma{t x y u m n}(ho:o.op= .binOp .neq t x y u)(ht:P.underlying t=some .bool)(hx:CL K x=some (.bool m))(hy:CL K y=some (.bool n)):Ec P N K o w (.bool (m !=n)):=by
 intro a hK w' _
 simp [execOp,ho,hK.ev hx,hK.ev hy,eqGuard,binOp,Ni ht,bne]
theorem gV{t x y u m n}(ho:o.op= .binOp .eql t x y u)(hx:CL K x=some (.string m))(hy:CL K y=some (.string n)):Ec P N K o w (.bool (m.toList==n.toList)):=by
 intro a hK w' _
 simp [execOp,ho,hK.ev hx,hK.ev hy,eqGuard,binOp,Op.stringOp]
theorem jG{t x y u m n}(ho:o.op= .binOp .neq t x y u)(hx:CL K x=some (.string m))(hy:CL K y=some (.string n)):Ec P N K o w (.bool (m.toList !=n.toList)):=by
 intro a hK w' _
 simp [execOp,ho,hK.ev hx,hK.ev hy,eqGuard,binOp,Op.stringOp,bne]
theorem fC{t x b}(ho:o.op= .unOp .not t x)(hx:CL K x=some (.bool b)):Ec P N K o w (.bool (!b)):=by
 intro a hK w' _
 simp [execOp,ho,hK.ev hx,Op.unary]
theorem fD{t x k m}(ho:o.op= .unOp .neg t x)(hx:CL K x=some (.int k m)):Ec P N K o w (.int k (k.wrap (0-m))):=by
 intro a hK w' _
 simp [execOp,ho,hK.ev hx,Op.unary,Op.intArith]
theorem Tx{c x y b u}(ho:o.op= .pick c x y)(hc:CL K c=some (.bool b))(hb:b=true)(hx:CL K x=some u):Ec P N K o w u:=by
 intro a hK w' _
 subst hb
 simp [execOp,ho,hK.ev hc,hK.ev hx,asBool]
theorem TO{c x y b u}(ho:o.op= .pick c x y)(hc:CL K c=some (.bool b))(hb:b=false)(hx:CL K y=some u):Ec P N K o w u:=by
 intro a hK w' _
 subst hb
 simp [execOp,ho,hK.ev hc,hK.ev hx,asBool]
theorem Qg{t x base n c e}(ho:o.op= .call { callee:=.builtin .len,args:=#[x],argTypes:=#[t] })(ht:P.underlying t=some (.slice e))(hx:CL K x=some (.slice base n c)):Ec P N K o w (.int .i64 n):=by
 intro a hK w' _
 simp [execOp,ho,resolve,invoke,builtin,hK.ev hx,Builtin.len_,run_underlying ht,goInt]
theorem Em{t x s}(ho:o.op= .call { callee:=.builtin .len,args:=#[x],argTypes:=#[t] })(ht:P.underlying t=some .string)(hx:CL K x=some (.string s)):Ec P N K o w (.int .i64 s.size):=by
 intro a hK w' _
 simp [execOp,ho,resolve,invoke,builtin,hK.ev hx,run_len_string,ht,goInt]
theorem SG{x i vs u}(ho:o.op= .extract x i)(hx:CL K x=some (.tuple vs))(hi:vs[i]? =some u):Ec P N K o w u:=by
 intro a hK w' _
 simp [execOp,ho,hK.ev hx,Instr.extract,hi]
theorem DF{ts x y k m n}(ho:o.op= .call { callee:=.builtin .min,args:=#[x,y],argTypes:=ts })(hx:CL K x=some (.int k m))(hy:CL K y=some (.int k n)):Ec P N K o w (.int k (min m n)):=by
 intro a hK w' _
 simp [execOp,ho,resolve,invoke,builtin,hK.ev hx,hK.ev hy,run_min_int2]
 split<;>omega
theorem Dd{ts x y k m n}(ho:o.op= .call { callee:=.builtin .max,args:=#[x,y],argTypes:=ts })(hx:CL K x=some (.int k m))(hy:CL K y=some (.int k n)):Ec P N K o w (.int k (max m n)):=by
 intro a hK w' _
 simp [execOp,ho,resolve,invoke,builtin,hK.ev hx,hK.ev hy,run_max_int2]
 split<;>omega
theorem OX{s t x k j m}(ho:o.op= .convert s t x)(hs:P.underlying s=some (.int j))(ht:P.underlying t=some (.int k))(hx:CL K x=some (.int j m)):Ec P N K o w (.int k (k.wrap m)):=by
 intro a hK w' _
 simp [execOp,ho,hK.ev hx,convert,run_underlying hs,run_underlying ht,Conv.intToInt]
end ops
end
end Go.Eng
namespace Go.Eng
open Go Go.RowKit
section
variable {P:Program} {N:Nat}
/-! ## Memory -/
theorem GK{w w':World}{b off:Nat}(e:w'.heap[b]? =w.heap[b]?):w'.frozen? ⟨b,off,none⟩=w.frozen? ⟨b,off,none⟩:=by simp only [World.frozen?,e]
def AR(w:World)(b off:Nat)(us:List Value):Prop:=∀j u,us[j]? =some u->w.cell? ⟨b,off+j,none⟩=some u∧w.frozen? ⟨b,off+j,none⟩=false
theorem AR.block{w w':World}{b off us}(h:AR w b off us)(e:w'.heap[b]? =w.heap[b]?):AR w' b off us:=
 fun j u hu=>⟨by rw [World.cell?_of_block (w:=w) e];exact(h j u hu).1,by rw [GK e];exact(h j u hu).2⟩
theorem AR.below{w w':World}{B b off us}(h:AR w b off us)(hb:Below B w w')(hlt:b<B):AR w' b off us:=
 h.block (hb.block b hlt)
theorem AR.ext{w w':World}{b off us}(h:AR w b off us)(he:AD w w'):AR w' b off us:=
 fun j u hu=>h.block (he.block b (World.block_lt_of_cell? _ _ (h j u hu).1)) j u hu
def Ae(w:World)(b:Nat)(us:List Value)(t:TypeId):Prop:=w.heap[b]? =some (.cells us.toArray t (0,0))
theorem Ae.lt{w:World}{b us t}(h:Ae w b us t):b<w.heap.size:=(Array.getElem?_eq_some_iff.1 h).1
theorem Ae.cells{w:World}{b us t}(h:Ae w b us t):AR w b 0 us:=fun j u hu=>by
 refine⟨?_,by unfold Ae at h;simp [World.frozen?,h]⟩
 rw [Nat.zero_add,cell_of_row w b j _ t _ h];simpa using hu
theorem Ae.ext{w w':World}{b us t}(h:Ae w b us t)(he:AD w w'):Ae w' b us t:=by
 unfold Ae;rw [he.block b h.lt];exact h
structure El(b:Nat)(w w':World):Prop where
 os:w'.os=w.os
 tape:w'.tape=w.tape
 output:w'.output=w.output
 size:w'.heap.size=w.heap.size
 block:∀k,k≠b->w'.heap[k]? =w.heap[k]?
theorem El.below{b B:Nat}{w w':World}(h:El b w w')(hB:B<=b):Below B w w':=
 ⟨h.os,h.tape,h.output,by rw [h.size];exact Nat.le_refl _,fun k hk=>h.block k (by omega)⟩
theorem Ae.upd{w w':World}{b c us t}(h:Ae w b us t)(he:El c w w')(hne:b≠c):Ae w' b us t:=by
 unfold Ae;rw [he.block b hne];exact h
theorem AR.upd{w w':World}{b c off us}(h:AR w b off us)(he:El c w w')(hne:b≠c):AR w' b off us:=
 h.block (he.block b hne)
theorem El.setRow(w:World)(b:Nat)(cs:Array Value):El b w (w.setRow b cs):=
 ⟨rfl,rfl,rfl,by simp,fun k hk=>setRow_other w b k cs hk⟩
def AL(P:Program)(t f:Nat):Option Nat:=
 match P.underlying t with
 |some (.struct fs)=>match fs[f]? with
  |some fd=>match P.info? fd.type with
   |some i=>if i.size=0 then none else some fd.offset
   |none=>none
  |none=>none
 |_=>none
def Bj(P:Program)(t:Nat):Option Bool:=
 match P.underlying t with
 |some (.struct _)|some (.array _ _)=>some true
 |some _=>some false
 |none=>none
def Ar(P:Program)(t:Nat):Option Nat:=(P.info? t).map (·.size)
def Dk(P:Program)(t:Nat):Option (List Value):=(P.info? t).bind fun i=>i.zero.map (·.cells.toList)
theorem DU(b off n:Nat):(⟨b,off,none⟩:Addr).add n=⟨b,off+n,none⟩:=by
 unfold Addr.add;split<;>simp_all
section
variable {K:KL} {o:Oper} {w:World}
theorem PG{t x f b off fo}(ho:o.op= .fieldAddr t x f)(hf:AL P t f=some fo)(hx:CL K x=some (.pointer (some ⟨b,off,none⟩))):
 Ec P N K o w (.pointer (some ⟨b,off+fo,none⟩)):=by
 intro a hK w' _
 unfold AL at hf
 split at hf
 ·rename_i fs hu
  split at hf
  ·rename_i fd hfd
   split at hf
   ·rename_i i hi
    split at hf
    ·cases hf
    ·rename_i hs
     injection hf with hf
     simp [execOp,ho,hK.ev hx,Instr.fieldAt,run_underlying hu,hfd,Instr.sureAddr,fieldPlace,sizeOf,typeInfo,hi,hs,DU,hf]
   ·cases hf
  ·cases hf
 ·cases hf
theorem Hl{t b}(h:Bj P t=some b)(w:World):(isAgg t).run P w= .ok b w:=by
 unfold Bj at h
 unfold isAgg
 split at h
 ·rename_i hu;injection h with h;subst h;simp [run_underlying hu]
 ·rename_i hu;injection h with h;subst h;simp [run_underlying hu]
 ·rename_i d h1 h2 hu;injection h with h;subst h
  rw [Sem.run_bind,run_underlying hu]
  cases d<;>first|rfl|exact absurd rfl (h1 _)|exact absurd rfl (h2 _ _)
 ·cases h
theorem Ph{t x b o0 off us u}(j:Nat)(ho:o.op= .load t x)(ha:Bj P t=some false)(hx:CL K x=some (.pointer (some ⟨b,off,none⟩)))(hcs:AR w b o0 us)(hj:off=o0+j)(hu:us[j]? =some u):Ec P N K o w u:=by
 have hc:w.cell? ⟨b,off,none⟩=some u:=by rw [hj];exact(hcs j u hu).1
 intro a hK w' he
 have hc':w'.cell? ⟨b,off,none⟩=some u:=by rw [he.cell (World.block_lt_of_cell? _ _ hc)];exact hc
 simp [execOp,ho,hK.ev hx,Instr.loadAt,Instr.sureAddr,loadVar,Sem.run_bind,Hl ha,hc']
theorem AR.sub{w:World}{b off:Nat}{us:List Value}(h:AR w b off us)(i n:Nat):AR w b (off+i) ((us.drop i).take n):=fun j u hu=>by
 rw [List.getElem?_take]at hu
 split at hu
 ·rw [List.getElem?_drop]at hu;rw [Nat.add_assoc];exact h (i+j) u hu
 ·cases hu
theorem Pf{t x b off us}(ho:o.op= .load t x)(ha:Bj P t=some true)(hx:CL K x=some (.pointer (some ⟨b,off,none⟩)))(hc:AR w b off us)(hn:Ar P t=some us.length):
 Ec P N K o w (.agg us.toArray):=by
 intro a hK w' he
 have hc':=hc.ext he
 obtain⟨i,hi,hs⟩:=Option.map_eq_some_iff.1 hn
 have hl:(loadCells ⟨b,off,none⟩ us.length).run P w'= .ok us.toArray w':=
  run_loadCells_list (P:=P) w' ⟨b,off,none⟩ us (fun j v hv=>by rw [DU];exact(hc' j v hv).1)
 simp [execOp,ho,hK.ev hx,Instr.loadAt,Instr.sureAddr,loadVar,Sem.run_bind,Hl ha,sizeOf,typeInfo,hi,hs,hl]
theorem PU{t x y b off v cur e}(ho:o.op= .store t x y)(hx:CL K x=some (.pointer (some ⟨b,off,none⟩)))(hy:CL K y=some v)(hb:Ae w b cur e)(hn:Ar P t=some v.cells.toList.length)
 (h1:v.cells.toList.all Value.oneCell'=true) (hfit:Nat.ble (off+v.cells.toList.length) cur.length=true):
 MG P N K o w (fun _ w'=>El b w w'∧Ae w' b (cur.take off++v.cells.toList++cur.drop (off+v.cells.toList.length)) e):=by
 intro a hK Kt Q hk
 obtain⟨i,hi,hs⟩:=Option.map_eq_some_iff.1 hn
 have hfit:=Nat.le_of_ble_eq_true hfit
 have hst:=run_storeCells_at P b off e v.cells.toList 0 cur.toArray w hb (by simpa using hfit) (List.all_eq_true.1 h1)
 simp only [Nat.add_zero]at hst
 unfold Oper.wp
 have hr:(execOp a.eval o).run P w= .ok .skip (w.setRow b (cur.take off++v.cells.toList++cur.drop (off+v.cells.toList.length)).toArray):=by
  simp [execOp,ho,hK.ev hx,hK.ev hy,Instr.storeAt,Instr.sureAddr,storeVar,Sem.run_bind,sizeOf,typeInfo,hi,hs]at hst ⊢
  rw [hst]
  simp
 rw [hr]
 exact hk _ _ ⟨El.setRow _ _ _,by unfold Ae;exact setRow_heap w b _ _ e _ hb⟩
def Mm(w w':World)(b:Nat)(us:List Value)(t:TypeId):Prop:=b=w.heap.size∧w'.heap.size=w.heap.size+1∧AD w w'∧Ae w' b us t
theorem Mm.of(w:World)(us:List Value)(t:TypeId):Mm w (w.alloc (.cells us.toArray t)) w.heap.size us t:=
 ⟨rfl,by simp,AD.alloc _ _,heap_alloc_new w _⟩
theorem AE{t zs}(ho:o.op= .alloc t)(hz:Dk P t=some zs):
 MG P N K o w (fun v w'=>∃b,v= .pointer (some ⟨b,0,none⟩)∧Mm w w' b zs t):=by
 intro a hK Kt Q hk
 unfold Dk at hz
 obtain⟨i,hi,hz2⟩:=Option.bind_eq_some_iff.1 hz
 obtain⟨z,hz3,hz4⟩:=Option.map_eq_some_iff.1 hz2
 have hr:(execOp a.eval o).run P w= .ok (.value (.pointer (some ⟨w.heap.size,0,none⟩))) (w.alloc (.cells zs.toArray t)):=by
  subst hz4
  simp [execOp,ho,Instr.alloc,zeroValue,typeInfo,hi,hz3,newVar,newRow,newObj];simp [Sem.run,Result.andThen]
 unfold Oper.wp
 rw [hr]
 exact hk _ _ ⟨_,rfl,Mm.of w zs t⟩
theorem AF{t x v}(ho:o.op= .box t x)(hx:CL K x=some v):
 MG P N K o w (fun u w'=>∃b,u= .pointer (some ⟨b,0,none⟩)∧Mm w w' b v.cells.toList t):=by
 intro a hK Kt Q hk
 have hr:(execOp a.eval o).run P w= .ok (.value (.pointer (some ⟨w.heap.size,0,none⟩))) (w.alloc (.cells v.cells.toList.toArray t)):=by
  simp [execOp,ho,hK.ev hx,Instr.box,newVar,newRow,newObj];simp [Sem.run,Result.andThen]
 unfold Oper.wp
 rw [hr]
 exact hk _ _ ⟨_,rfl,Mm.of w _ t⟩
/-! ## Calls -/
def Nf(K:KL):List Operand->Option (List Value)
 |[]=>some []
 |x::xs=>match CL K x,Nf K xs with|some v,some vs=>some (v::vs)|_,_=>none
theorem Kn.evs{K a}(h:Kn N K a):∀{xs vs},Nf K xs=some vs->xs.map a.eval=vs
 |[],vs,e=>by simp [Nf]at e;subst e;rfl
 |x::xs,vs,e=>by
  unfold Nf at e
  split at e
  ·rename_i v vs' h1 h2
   injection e with e;subst e
   simp [h.ev h1,h.evs h2]
  ·cases e
def AZ(P:Program)(f:FuncId):Bool:=match P.funcs[f]? with|some fn=> !(fn.name== "runtime.NumGoroutine")&&fn.body.isSome|none=>false
theorem OE{f}(h:AZ P f=true)(args:Array Value)(w:World):(callFunc f args).run P w= .ok (.enter f args) w:=by
 unfold AZ at h
 split at h
 ·rename_i fn hf
  simp only [Bool.and_eq_true,Bool.not_eq_true']at h
  have hb:fn.body.isNone=false:=by cases hq:fn.body<;>simp_all
  have hb2:¬fn.body=none:=by intro e;simp [e]at hb
  have h1:¬fn.name= "runtime.NumGoroutine" :=by intro e;simp [e]at h
  simp [callFunc,hf,h1,hb2]
 ·cases h
def Di(R:Value->World->Prop):Ending->World->Prop:=fun e w'=>∃v,e= .returned v∧R v w'
theorem bS{f args tys vs}{R:Value->World->Prop}(ho:o.op= .call { callee:=.value (.func f),args:=args,argTypes:=tys })(hf:AZ P f=true)
 (ha:Nf K args.toList=some vs) (hc:Calls P f vs.toArray w (Di R)):MG P N K o w R:=by
 intro a hK Kt Q hk
 have he:args.map a.eval=vs.toArray:=by
  have:=hK.evs ha
  apply Array.ext'
  simpa using this
 have hr:(execOp a.eval o).run P w= .ok (.enter f vs.toArray) w:=by
  simp [execOp,ho,resolve,Act.eval,Deferred.ofValue,invoke,he,OE hf]
 unfold Oper.wp
 rw [hr]
 exact hc.mono fun e w' ⟨v,he,hR⟩=>by subst he;exact hk _ _ hR
end
/-! ## Code -/
section
variable {Q:Exit -> Act -> World -> Prop} {K:KL} {w:World}
theorem WC.seq{x y:Code}(h:WC P N x (Exit.then (fun a' w'=>y.wp P Q a' w') Q) K w):WC P N (.seq x y) Q K w:=fun a hK=>wp_seq (h a hK)
theorem WC.region{id:Nat}{l:List Oper}(h:TL P N l.toArray Q l K w):WC P N (.region id l.toArray false) Q K w:=fun a hK=>wp_region_lit (h a hK)
theorem WC.block{id:Nat}{c:Code}(h:WC P N c (Exit.inBlock id Q) K w):WC P N (.block id c) Q K w:=fun a hK=>wp_block (h a hK)
theorem WC.skip(h:∀a,Kn N K a->Q .normal a w):WC P N .skip Q K w:=fun a hK=>wp_skip (h a hK)
theorem WC.exit{id:Nat}(h:∀a,Kn N K a->Q (.exit id) a w):WC P N (.exit id) Q K w:=fun a hK=>wp_exit (h a hK)
theorem WC.ret(h:∀a,Kn N K a->Q .ret a w):WC P N .ret Q K w:=fun a hK=>wp_ret (h a hK)
theorem WC.cond{c:Operand}{x y:Code}{t:Bool}(hc:CL K c=some (.bool t))(ht:t=true->WC P N x Q K w)(hf:t=false->WC P N y Q K w):WC P N (.cond c x y) Q K w:=
 fun a hK=>wp_cond_split (hK.ev hc) (fun h=>ht h a hK) (fun h=>hf h a hK)
theorem WC.weaken{c:Code}{K'}(hk:eQ K' K)(h:WC P N c Q K' w):WC P N c Q K w:=fun a hK=>h a (hK.weaken hk)
theorem WC.loop{c:Code}(I:Nat->Act->World->Prop)(m:Nat)(h0:∀a,Kn N K a->I m a w)
 (round:∀m a w,I m a w->c.wp P (Exit.then (fun a' w'=>∃m',m'<m∧I m' a' w') Q) a w):WC P N (.loop c) Q K w:=by
 intro a hK
 classical
 have key:∀a w,(∃m,I m a w)->∃m,I m a w∧∀m',I m' a w->m<=m':=by
  intro a w ⟨m,hm⟩
  induction m using Nat.strongRecOn with
  |_ m ih=>
   by_cases h:∃m',m'<m∧I m' a w
   ·obtain⟨m',h1,h2⟩:=h;exact ih m' h1 h2
   ·exact⟨m,hm,fun m' hm'=>Nat.le_of_not_lt fun hlt=>h ⟨m',hlt,hm'⟩⟩
 let μ:Act->World->Nat:=fun a w=>if h:∃m,I m a w then Classical.choose (key a w h)else 0
 have hμ:∀a w,(h:∃m,I m a w)->I (μ a w) a w∧∀m',I m' a w->μ a w<=m':=by
  intro a w h
  simp only [μ,dif_pos h]
  exact Classical.choose_spec (key a w h)
 refine wp_loop (fun a w=>∃m,I m a w) μ ⟨m,h0 a hK⟩ fun a w hI=>?_
 obtain⟨h1,h2⟩:=hμ a w hI
 refine Code.wp_mono ?_ (round _ a w h1)
 intro e a' w' hq
 cases e with
 |normal=>
  obtain⟨m',hlt,hm'⟩:=hq
  exact⟨⟨m',hm'⟩,Nat.lt_of_le_of_lt ((hμ a' w' ⟨m',hm'⟩).2 m' hm') hlt⟩
 |_=>exact hq
end
/-! ## Functions -/
def PK:Nat->List Value->KL
 |_,[]=>[]
 |i,v::vs=>(i,v)::PK (i+1) vs
theorem PT:∀(vs:List Value) (i t:Nat) (u:Value),kl (PK i vs) t=some u->i<=t∧vs[t-i]? =some u
 |[],_,_,_,h=>by simp [PK,kl]at h
 |v::vs,i,t,u,h=>by
  simp only [PK,kl]at h
  cases hq:Nat.beq i t with
  |true=>
   rw [hq]at h
   have:=Nat.eq_of_beq_eq_true hq
   subst this
   simpa using h
  |false=>
   rw [hq]at h
   obtain⟨h1,h2⟩:=PT vs (i+1) t u (by simpa using h)
   refine⟨by omega,?_⟩
   rw [show t-i=(t-(i+1))+1 by omega]
   simpa using h2
theorem ZS{f:FuncId}{fn:Func}{c:Code}{vs:List Value}{w:World}{R:Ending->World->Prop}
 (hf:P.funcs[f]? =some fn) (hb:fn.body=some c) (hn:fn.ntmps=N) (h:WC P N c (bodyPost P fn R) (PK 0 vs) w):Calls P f vs.toArray w R:=by
 refine calls_of_wp hf hb (h _ ⟨rfl,?_,?_⟩)
 ·simp [hn];omega
 ·intro t v ht
  obtain⟨_,h2⟩:=PT vs 0 t v ht
  have hlt:t<vs.length:=by
   rcases Nat.lt_or_ge t vs.length with h|h
   ·exact h
   ·simp [h]at h2
  simp at h2
  rw [Array.getElem?_append_left (by simpa using hlt)]
  simpa using h2
def Oe(P:Program)(K:KL)(w:World):List ResultVar->List Value->Prop
 |[],[]=>True
 | .tmp t::rs,v::vs=>kl K t=some v∧Oe P K w rs vs
 | .cell p ty::rs,v::vs=>(∃b,kl K p=some (.pointer (some ⟨b,0,none⟩))∧(loadVar ty ⟨b,0,none⟩).run P w= .ok v w)∧Oe P K w rs vs
 |_,_=>False
def EU:List Value->Value
 |[v]=>v
 |vs=>.tuple vs.toArray
def SK(a:Act):ResultVar->Sem Value
 | .tmp t=>pure (a.tmps.getD t undef)
 | .cell p t=>do loadVar t (←asAddr (a.tmps.getD p undef))
theorem Fi{K a w}(h:Kn N K a):∀{rs vs},Oe P K w rs vs->(rs.mapM (SK a)).run P w= .ok vs w
 |[],[],_=>by simp
 | .tmp t::rs,v::vs,⟨h1,h2⟩=>by
  have:=h.get t v h1
  have ih:=Fi h h2
  simp [SK,Array.getD_eq_getD_getElem?,this,ih]
 | .cell p ty::rs,v::vs,⟨⟨b,h1,h3⟩,h2⟩=>by
  have:=h.get p _ h1
  have ih:=Fi h h2
  simp [SK,Array.getD_eq_getD_getElem?,this,asAddr,h3,ih]
theorem Sf{fn:Func}{rs vs K w R}(hr:fn.results=rs.toArray)(ho:Oe P K w rs vs)(hR:R (.returned (EU vs)) w):∀a,Kn N K a->bodyPost P fn R .ret a w:=by
 intro a hK
 refine bodyPost_ret (v:=EU vs) ?_ hK.df hR
 have:=Fi (P:=P) hK ho
 have hfun:∀f:ResultVar->Sem Value,(∀r,f r=SK a r)->(rs.mapM f).run P w= .ok vs w:=by
  intro f hf;rw [show f=SK a from funext hf];exact this
 unfold results
 rw [hr,List.mapM_toArray]
 simp only [Sem.run_bind,Sem.run_map]
 rw [hfun _ (by intro r;cases r<;>rfl)]
 simp only [Result.andThen_ok,Sem.run_pure]
 match vs,ho with
 |[],_=>rfl
 |[v],_=>rfl
 |v::v'::vs,_=>simp [EU]
end
end Go.Eng
namespace Go.Eng
open Go Go.RowKit
section
variable {P:Program} {N:Nat}
/-! ## Guards, cuts -/
def My(ops:Array Oper)(j:Nat):Option Tmp:=(ops[j]?).bind (·.dst)
theorem Kn.yielded{K a ops j t b}(h:Kn N K a)(hs:My ops j=some t)(hb:kl K t=some (.bool b)):yielded ops a.tmps j=some b:=by
 have:=h.get t _ hb
 unfold My at hs
 simp [Go.yielded,hs,this]
section
variable {ops:Array Oper} {Q:Exit -> Act -> World -> Prop} {o:Oper} {rest l:List Oper} {K:KL} {w:World}
theorem TX{K a j t b want}(h:Kn N K a)(hg:o.guard=some (j,want))(hs:My ops j=some t)(hb:kl K t=some (.bool b))(hw:b=want):Region.wanted o (yielded ops a.tmps)=true:=by
 subst hw;simp [Region.wanted,hg,h.yielded hs hb]
theorem WR{K a j t b want}(h:Kn N K a)(hg:o.guard=some (j,want))(hs:My ops j=some t)(hb:kl K t=some (.bool b))(hw:b= !want):Region.wanted o (yielded ops a.tmps)=false:=by
 subst hw;simp [Region.wanted,hg,h.yielded hs hb]
theorem PA{l1 l2:List Oper}:∀{a w},wpList P ops (Exit.then (fun a' w'=>wpList P ops Q l2 a' w') Q) l1 a w->wpList P ops Q (l1++l2) a w:=by
 induction l1 with
 |nil=>intro a w h;exact h
 |cons o l1 ih=>
  intro a w h
  unfold wpList at h
  show wpList P ops Q (o::(l1++l2)) a w
  unfold wpList
  split at h
  ·rename_i hw
   rw [if_pos hw]
   refine h.imp (fun h=>?_) (fun h=>h)
   unfold Oper.wp at*
   generalize (execOp a.eval o).run P w=r at*
   cases r with
   |ok n w'=>
    cases n<;>simp only [Oper.upon]at h ⊢ <;>
     first
      |exact ih h
      |exact Calls.mono h (fun e w'' he=>by cases e<;>first|exact ih he|exact he)
      |exact Rows.mono h (fun _ _ he=>ih he)
      |exact h
   |halt x w'=>cases x<;>simp only [Oper.upon]at h ⊢ <;>exact h
  ·rename_i hw
   rw [if_neg hw]
   exact ih h
theorem TL.cut(k:Nat)(K':KL)(R:World->Prop)(h1:TL P N ops (Exit.then (fun a' w'=>Kn N K' a'∧R w') Q) (l.take k) K w)(h2:∀w',R w'->TL P N ops Q (l.drop k) K' w'):TL P N ops Q l K w:=by
 intro a hK
 rw [←List.take_append_drop k l]
 refine PA ?_
 have:=h1 a hK
 revert this
 generalize l.take k=l1
 intro h
 have mono:∀(l1:List Oper) a w,wpList P ops (Exit.then (fun a' w'=>Kn N K' a'∧R w') Q) l1 a w->wpList P ops (Exit.then (fun a' w'=>wpList P ops Q (l.drop k) a' w') Q) l1 a w:=by
  intro l1
  induction l1 with
  |nil=>intro a w h;exact h2 w h.2 a h.1
  |cons o l1 ih=>
   intro a w h
   unfold wpList at h ⊢
   split at h
   ·rename_i hw
    rw [if_pos hw]
    refine h.imp (fun h=>?_) (fun h=>h)
    unfold Oper.wp at*
    generalize (execOp a.eval o).run P w=r at*
    cases r with
    |ok n w'=>
     cases n<;>simp only [Oper.upon]at h ⊢ <;>
      first
       |exact ih _ _ h
       |exact Calls.mono h (fun e w'' he=>by cases e<;>first|exact ih _ _ he|exact he)
       |exact Rows.mono h (fun _ _ he=>ih _ _ he)
       |exact h
    |halt x w'=>cases x<;>simp only [Oper.upon]at h ⊢ <;>exact h
   ·rename_i hw
    rw [if_neg hw]
    exact ih _ _ h
 exact mono l1 a w h
/-! ## Regions whose order is drawn, all of whose operations are quiet -/
def QL(P:Program)(N:Nat)(ops:Array Oper)(w:World)(Qa:Act->Prop)(l:List Oper)(K:KL):Prop:=
 ∀a,Kn N K a->wpQuiet P ops (fun w'=>AD w w') Qa l a
def xO(P:Program)(N:Nat)(K:KL)(o:Oper)(w:World)(v:Value):Prop:=
 ∀a,Kn N K a->∀w',AD w w'->o.quietAt P a (fun w'=>AD w w') w' v
theorem Ec.qui{v}(h:Ec P N K o w v):xO P N K o w v:=by
 intro a hK w' he
 unfold Oper.quietAt
 rw [h a hK w' he]
 exact⟨rfl,rfl⟩
theorem YB{f args tys vs v}(ho:o.op= .call { callee:=.value (.func f),args:=args,argTypes:=tys })(hf:AZ P f=true)
 (ha:Nf K args.toList=some vs) (hc:∀w',AD w w'->Calls P f vs.toArray w' (Di fun u w''=>u=v∧AD w' w'')):xO P N K o w v:=by
 intro a hK w' hw
 have he:args.map a.eval=vs.toArray:=by
  have:=hK.evs ha
  apply Array.ext'
  simpa using this
 have hr:(execOp a.eval o).run P w'= .ok (.enter f vs.toArray) w':=by
  simp [execOp,ho,resolve,Act.eval,Deferred.ofValue,invoke,he,OE hf]
 unfold Oper.quietAt
 rw [hr]
 exact⟨rfl,(hc w' hw).mono fun e w'' ⟨u,h1,h2,h3⟩=>by subst h1 h2;exact⟨rfl,hw.trans h3⟩⟩
variable {Qa:Act -> Prop}
theorem QL.nil(h:∀a,Kn N K a->Qa a):QL P N ops w Qa [] K:=fun a hK=>h a hK
theorem QL.yld{v}(hg:o.guard=none)(hd:Cy N o.dst=true)(h:xO P N K o w v)(k:QL P N ops w Qa rest (BT K o.dst v)):QL P N ops w Qa (o::rest) K:=by
 intro a hK
 unfold wpQuiet
 rw [if_pos (by simp [Region.wanted,hg])]
 exact⟨v,fun w' hw'=>h a hK w' hw',k _ (hK.put (Cy.h hd))⟩
theorem Nw{C:World->Prop}{l1 l2:List Oper}:∀{a},wpQuiet P ops C (fun a'=>wpQuiet P ops C Qa l2 a') l1 a->wpQuiet P ops C Qa (l1++l2) a:=by
 induction l1 with
 |nil=>intro a h;exact h
 |cons o l1 ih=>
  intro a h
  unfold wpQuiet at h
  show wpQuiet P ops C Qa (o::(l1++l2)) a
  unfold wpQuiet
  split at h
  ·rename_i hw
   rw [if_pos hw]
   obtain⟨v,h1,h2⟩:=h
   exact⟨v,h1,ih h2⟩
  ·rename_i hw
   rw [if_neg hw]
   exact ih h
theorem Qf{C:World->Prop}{Qa Qb:Act->Prop}(hm:∀a,Qa a->Qb a):∀{l1:List Oper} {a},wpQuiet P ops C Qa l1 a->wpQuiet P ops C Qb l1 a:=by
 intro l1
 induction l1 with
 |nil=>intro a h;exact hm _ h
 |cons o l1 ih=>
  intro a h
  unfold wpQuiet at h ⊢
  split at h
  ·rename_i hw
   rw [if_pos hw]
   obtain⟨v,h1,h2⟩:=h
   exact⟨v,h1,ih h2⟩
  ·rename_i hw
   rw [if_neg hw]
   exact ih h
theorem QL.cut(k:Nat)(K':KL)(h1:QL P N ops w (fun a'=>Kn N K' a') (l.take k) K)(h2:QL P N ops w Qa (l.drop k) K'):QL P N ops w Qa l K:=by
 intro a hK
 rw [←List.take_append_drop k l]
 exact Nw (Qf (fun a' h=>h2 a' h) (h1 a hK))
theorem WC.quiet{id:Nat}(hm:P.follows .mixedOrders=true)(hB:Region.lexB .any l.toArray=true)(h:QL P N l.toArray w (fun a'=>∀w',AD w w'->Q .normal a' w') l K):WC P N (.region id l.toArray true) Q K w:=
 fun a hK=>wp_region_quiet (C:=fun w'=>AD w w') hm hB (AD.drew w) (by simpa using h a hK)
end
end
end Go.Eng
namespace Go.Eng
open Go Go.RowKit
/-! ## Data in memory -/
abbrev Iv(lo hi:Nat):Nat->Prop:=fun k=>lo<=k∧k<hi
structure Cd(α:Type) where
 n:Nat
 rep:World->(Nat->Prop)->α->List Value->Prop
 len:∀{w S x vs},rep w S x vs->vs.length=n
 one:∀{w S x vs},rep w S x vs->vs.all Value.oneCell'=true
 mono:∀{w w' S S' x vs},rep w S x vs->(∀k,S k->S' k)->(∀k,S k->w'.heap[k]? =w.heap[k]?)->rep w' S' x vs
def AH(k:IntKind):Cd Int where
 n:=1
 rep:=fun _ _ x vs=>vs=[.int k x]
 len:=fun h=>by rw [h];rfl
 one:=fun h=>by rw [h];rfl
 mono:=fun h _ _=>h
def Aq:Cd Bool where
 n:=1
 rep:=fun _ _ x vs=>vs=[.bool x]
 len:=fun h=>by rw [h];rfl
 one:=fun h=>by rw [h];rfl
 mono:=fun h _ _=>h
def At:Cd ByteArray where
 n:=1
 rep:=fun _ _ x vs=>vs=[.string x]
 len:=fun h=>by rw [h];rfl
 one:=fun h=>by rw [h];rfl
 mono:=fun h _ _=>h
def BG{α β:Type}(c:Cd α)(d:Cd β):Cd (α×β) where
 n:=c.n+d.n
 rep:=fun w S x vs=>∃us ts,vs=us++ts∧c.rep w S x.1 us∧d.rep w S x.2 ts
 len:=fun⟨us,ts,e,h1,h2⟩=>by rw [e,List.length_append,c.len h1,d.len h2]
 one:=fun⟨us,ts,e,h1,h2⟩=>by rw [e,List.all_append,c.one h1,d.one h2];rfl
 mono:=fun⟨us,ts,e,h1,h2⟩ a b=>⟨us,ts,e,c.mono h1 a b,d.mono h2 a b⟩
def Cl{α β:Type}(f:β->α)(c:Cd α):Cd β where
 n:=c.n
 rep:=fun w S x vs=>c.rep w S (f x) vs
 len:=fun h=>c.len h
 one:=fun h=>c.one h
 mono:=fun h a b=>c.mono h a b
def AK{α:Type}(c:Cd α)(w:World)(S:Nat->Prop)(xs:List α)(v:Value):Prop:=
 ∃a cap,v= .slice a xs.length cap∧(xs.length<=cap∧(a=none->cap=0))∧cap<=9223372036854775807∧
  (0<xs.length->∃b off,a=some ⟨b,off,none⟩∧S b∧∀i x,xs[i]? =some x->∃us,c.rep w S x us∧AR w b (off+i*c.n) us)
theorem AK.mono{α:Type}{c:Cd α}{w w':World}{S S':Nat->Prop}{xs:List α}{v:Value}(h:AK c w S xs v)(ha:∀k,S k->S' k)(hk:∀k,S k->w'.heap[k]? =w.heap[k]?):AK c w' S' xs v:=by
 obtain⟨a,cap,h1,h2,h3,h4⟩:=h
 refine⟨a,cap,h1,h2,h3,fun hl=>?_⟩
 obtain⟨b,off,h5,h6,h8⟩:=h4 hl
 refine⟨b,off,h5,ha b h6,fun i x hx=>?_⟩
 obtain⟨us,h9,h10⟩:=h8 i x hx
 exact⟨us,c.mono h9 ha hk,h10.block (hk b h6)⟩
def DI{α:Type}(c:Cd α):Cd (List α) where
 n:=1
 rep:=fun w S xs vs=>∃v,vs=[v]∧AK c w S xs v
 len:=fun⟨v,e,_⟩=>by rw [e];rfl
 one:=fun⟨v,e,a,cap,h,_⟩=>by rw [e,h];rfl
 mono:=fun⟨v,e,h⟩ ha hk=>⟨v,e,h.mono ha hk⟩
theorem AK.old{α:Type}{c:Cd α}{w w':World}{B lo hi:Nat}{xs:List α}{v:Value}(h:AK c w (Iv lo hi) xs v)(hB:Below B w w')(hle:hi<=B):AK c w' (Iv lo hi) xs v:=
 h.mono (fun _ h=>h) (fun k h2=>hB.block k (by have:=h2.2;omega))
theorem AK.wide{α:Type}{c:Cd α}{w:World}{lo hi lo' hi':Nat}{xs:List α}{v:Value}(h:AK c w (Iv lo hi) xs v)(h1:lo'<=lo:=by omega)(h2:hi<=hi':=by omega):AK c w (Iv lo' hi') xs v:=
 h.mono (fun k h=>⟨by have:=h.1;omega,by have:=h.2;omega⟩) (fun _ _=>rfl)
theorem AK.upd{α:Type}{c:Cd α}{w w':World}{b lo hi:Nat}{xs:List α}{v:Value}(h:AK c w (Iv lo hi) xs v)(hu:El b w w')(hne:b<lo∨hi<=b):AK c w' (Iv lo hi) xs v:=
 h.mono (fun _ h=>h) (fun k h=>hu.block k (by have:=h.1;have:=h.2;omega))
theorem Cd.old{α:Type}(c:Cd α){w w':World}{B lo hi:Nat}{x:α}{vs:List Value}(h:c.rep w (Iv lo hi) x vs)(hB:Below B w w')(hle:hi<=B):c.rep w' (Iv lo hi) x vs:=
 c.mono h (fun _ h=>h) (fun k h2=>hB.block k (by have:=h2.2;omega))
theorem Cd.wide{α:Type}(c:Cd α){w:World}{lo hi lo' hi':Nat}{x:α}{vs:List Value}(h:c.rep w (Iv lo hi) x vs)(h1:lo'<=lo)(h2:hi<=hi'):c.rep w (Iv lo' hi') x vs:=
 c.mono h (fun k h=>⟨by have:=h.1;omega,by have:=h.2;omega⟩) (fun _ _=>rfl)
theorem AK.nil{α:Type}(c:Cd α)(w:World)(S:Nat->Prop):AK c w S [] (.slice none 0 0):=⟨none,0,rfl,⟨by simp,fun _=>rfl⟩,by simp,fun h=>by simp at h⟩
def AG{α:Type}(xs:List α)(i:Int):Option α:=if 0<=i then xs[i.toNat]? else none
theorem EQ{α:Type}{xs:List α}{i:Int}{x:α}(h:AG xs i=some x):0<=i∧i<xs.length∧xs[i.toNat]? =some x:=by
 unfold AG at h
 split at h
 ·rename_i h0
  obtain⟨h1,_⟩:=List.getElem?_eq_some_iff.1 h
  exact⟨h0,by omega,h⟩
 ·cases h
section
variable {P:Program} {N:Nat}
def YE(P:Program)(N:Nat)(K:KL)(o:Oper)(w:World)(Ψ:Value->Prop):Prop:=∃v,Ec P N K o w v∧Ψ v
section
variable {ops:Array Oper} {Q:Exit -> Act -> World -> Prop} {o:Oper} {rest l:List Oper} {K:KL} {w:World} {Qa:Act -> Prop} {Ψ:Value -> Prop}
theorem Eh{t x i e b off n c k m sz}(ho:o.op= .indexAddr t x i)(hu:P.underlying t=some (.slice e))(hc:Ar P e=some sz)(hx:CL K x=some (.slice (some ⟨b,off,none⟩) n c))
 (hi:CL K i=some (.int k m)) (h0:0<=m) (h1:m<n):Ec P N K o w (.pointer (some ⟨b,off+m.toNat*sz,none⟩)):=by
 intro a hK w' _
 obtain⟨i,hi2,hs⟩:=Option.map_eq_some_iff.1 hc
 simp [execOp,ho,hK.ev hx,hK.ev hi,Instr.indexAt,asIntOf,run_underlying hu,h0,h1,sizeOf,typeInfo,hi2,hs,DU]
theorem XW{α:Type}{c:Cd α}{xs:List α}{y:α}{t x i e v k m S}(ho:o.op= .indexAddr t x i)(hu:P.underlying t=some (.slice e))(hc:Ar P e=some c.n)(hx:CL K x=some v)
 (hi2:CL K i=some (.int k m)) (hs:AK c w S xs v) (hg:AG xs m=some y):
 YE P N K o w (fun u=>∃b off us,u= .pointer (some ⟨b,off,none⟩)∧S b∧c.rep w S y us∧AR w b off us):=by
 obtain⟨a,cap,rfl,h2,h3,h4⟩:=hs
 obtain⟨g0,g1,g2⟩:=EQ hg
 obtain⟨b,off,rfl,h5,h7⟩:=h4 (by omega)
 obtain⟨us,h8,h9⟩:=h7 _ _ g2
 exact⟨_,Eh ho hu hc hx hi2 g0 g1,b,_,us,rfl,h5,h8,h9⟩
theorem mE{α:Type}{c:Cd α}{xs:List α}{t x e v S}(ho:o.op= .call { callee:=.builtin .len,args:=#[x],argTypes:=#[t] })(hu:P.underlying t=some (.slice e))(hx:CL K x=some v)(hs:AK c w S xs v):
 Ec P N K o w (.int .i64 xs.length):=by
 obtain⟨a,cap,rfl,h2,h3,h4⟩:=hs
 exact Qg ho hu hx
end
section
variable {o:Oper} {K:KL} {w:World}
end
/-! ## What comes next -/
def NX(N:Nat)(Q:Exit->Act->World->Prop)(e:Exit)(K:KL)(w:World):Prop:=∀a,Kn N K a->Q e a w
section
variable {Q:Exit -> Act -> World -> Prop} {K:KL} {w:World} {f:Act -> World -> Prop} {ops:Array Oper}
theorem TL.done(h:NX N Q .normal K w):TL P N ops Q [] K w:=TL.nil h
theorem QL.done(h:∀w',AD w w'->NX N Q .normal K w'):QL P N ops w (fun a'=>∀w',AD w w'->Q .normal a' w') [] K:=QL.nil fun a hK w' he=>h w' he a hK
theorem WC.skip'(h:NX N Q .normal K w):WC P N .skip Q K w:=WC.skip h
theorem WC.exit'{id:Nat}(h:NX N Q (.exit id) K w):WC P N (.exit id) Q K w:=WC.exit h
theorem WC.ret'(h:NX N Q .ret K w):WC P N .ret Q K w:=WC.ret h
theorem NX.seq{y:Code}{Q':Exit->Act->World->Prop}(h:WC P N y Q' K w):NX N (Exit.then (fun a' w'=>y.wp P Q' a' w') Q) .normal K w:=h
theorem NX.then_n(h:∀a,Kn N K a->f a w):NX N (Exit.then f Q) .normal K w:=h
theorem NX.then_e{id:Nat}(h:NX N Q (.exit id) K w):NX N (Exit.then f Q) (.exit id) K w:=h
theorem NX.then_r(h:NX N Q .ret K w):NX N (Exit.then f Q) .ret K w:=h
theorem NX.blk_n{id:Nat}(h:NX N Q .normal K w):NX N (Exit.inBlock id Q) .normal K w:=h
theorem NX.blk_r{id:Nat}(h:NX N Q .ret K w):NX N (Exit.inBlock id Q) .ret K w:=h
theorem NX.blk_hit{id:Nat}(h:NX N Q .normal K w):NX N (Exit.inBlock id Q) (.exit id) K w:=fun a hK=>by
 show(if id=id then Q .normal a w else Q (.exit id) a w);rw [if_pos rfl];exact h a hK
theorem NX.blk_miss{id id':Nat}(hne:Nat.beq id' id=false)(h:NX N Q (.exit id') K w):NX N (Exit.inBlock id Q) (.exit id') K w:=fun a hK=>by
 have hn:¬id'=id:=fun e=>by subst e;simp at hne
 show(if id'=id then Q .normal a w else Q (.exit id') a w);rw [if_neg hn];exact h a hK
theorem NX.weaken{K'}{e:Exit}(hk:eQ K' K)(h:NX N Q e K' w):NX N Q e K w:=fun a hK=>h a (hK.weaken hk)
theorem NX.end{fn:Func}{rs vs R}(hr:fn.results=rs.toArray)(ho:Oe P K w rs vs)(hR:R (.returned (EU vs)) w):NX N (bodyPost P fn R) .ret K w:=Sf hr ho hR
theorem NX.end_n{fn:Func}{rs vs R}(hr:fn.results=rs.toArray)(ho:Oe P K w rs vs)(hR:R (.returned (EU vs)) w):NX N (bodyPost P fn R) .normal K w:=Sf (P:=P) hr ho hR
theorem Bi{b ty T}{us:List Value}(ha:Bj P ty=some true)(hn:Ar P ty=some us.length)(hb:Ae w b us T):(loadVar ty ⟨b,0,none⟩).run P w= .ok (.agg us.toArray) w:=by
 obtain⟨i,hi,hs⟩:=Option.map_eq_some_iff.1 hn
 have hl:(loadCells ⟨b,0,none⟩ us.length).run P w= .ok us.toArray w:=
  run_loadCells_list (P:=P) w ⟨b,0,none⟩ us (fun j v hv=>by rw [DU];exact(hb.cells j v hv).1)
 simp [loadVar,Sem.run_bind,Hl ha,sizeOf,typeInfo,hi,hs,hl]
end
end
theorem AK.one{α:Type}{c:Cd α}{w:World}{S:Nat->Prop}{xs:List α}{v:Value}(h:AK c w S xs v):v.oneCell'=true:=by
 obtain⟨a,cap,rfl,_⟩:=h;rfl
theorem AK.cells{α:Type}{c:Cd α}{w:World}{S:Nat->Prop}{xs:List α}{v:Value}(h:AK c w S xs v):v.cells= #[v]:=by
 obtain⟨a,cap,rfl,_⟩:=h;rfl
theorem PS{α:Type}{b:Int}{a:Option α}{r:α}(h:(bif b==0 then none else a)=some r):b≠0∧a=some r:=by
 by_cases hb:b=0
 ·subst hb;cases h
 ·refine⟨hb,?_⟩
  have:(b==0)=false:=by simpa using hb
  rw [this]at h;exact h
theorem AM{α β:Type}{o:Option α}{f:α->Option β}{r:β}(h:Option.bind o f=some r):∃x,o=some x∧f x=some r:=by
 cases o with
 |none=>cases h
 |some x=>exact⟨x,rfl,h⟩
theorem Oo{α:Type}{c:Bool}{a b:Option α}{r:α}(h:c=true)(hF:(bif c then a else b)=some r):a=some r:=by subst h;exact hF
theorem Nu{α:Type}{c:Bool}{a b:Option α}{r:α}(h:c=false)(hF:(bif c then a else b)=some r):b=some r:=by subst h;exact hF
end Go.Eng
namespace Go.Eng
open Go Go.RowKit
class DO{α:Type}(c:Cd α):Prop where
 any:∀{w w' S S' x vs},c.rep w S x vs->c.rep w' S' x vs
instance (k:IntKind):DO (AH k):=⟨fun h=>h⟩
instance:DO Aq:=⟨fun h=>h⟩
instance:DO At:=⟨fun h=>h⟩
instance {α β:Type}(c:Cd α)(d:Cd β)[DO c][DO d]:DO (BG c d):=⟨fun⟨us,ts,e,h1,h2⟩=>⟨us,ts,e,DO.any h1,DO.any h2⟩⟩
instance {α β:Type}(f:β->α)(c:Cd α)[h:DO c]:DO (Cl f c):=⟨fun k=>h.any k⟩
def Ax(cs:List Value)(n i:Nat):List Value:=(cs.drop (i*n)).take n
theorem Bf{cs:List Value}{n i j:Nat}(hj:j<n):(Ax cs n i)[j]? =cs[i*n+j]?:=by
 unfold Ax
 rw [List.getElem?_take,if_pos hj,List.getElem?_drop]
def AA{α:Type}(c:Cd α)(w:World)(B:Nat)(S:Nat->Prop)(e:TypeId)(xs:List α)(v:Value):Prop:=
 ∃cs,w.ownsRow B e c.n v xs.length cs∧∀i x,xs[i]? =some x->c.rep w S x (Ax cs c.n i)
section
variable {α:Type} {c:Cd α} {w w':World} {B:Nat} {S S':Nat -> Prop} {e:TypeId} {xs:List α} {v:Value}
theorem AA.blk(h:AA c w B S e xs v):∀g,v.ownBlock=some g->B<=g∧g<w.heap.size:=by
 obtain⟨cs,h1,_⟩:=h;exact h1.lt
theorem AA.one(h:AA c w B S e xs v):v.oneCell'=true:=by
 obtain⟨cs,⟨_,⟨rfl,_⟩|⟨g,cap,cur,rfl,_⟩⟩,_⟩:=h<;>rfl
theorem AA.cells(h:AA c w B S e xs v):v.cells= #[v]:=by
 obtain⟨cs,⟨_,⟨rfl,_⟩|⟨g,cap,cur,rfl,_⟩⟩,_⟩:=h<;>rfl
theorem AA.base(h:AA c w B S e xs v){B':Nat}(hB:B'<=B:=by omega):AA c w B' S e xs v:=by
 obtain⟨cs,⟨h1,h2⟩,h3⟩:=h
 refine⟨cs,⟨h1,?_⟩,h3⟩
 rcases h2 with h2|⟨g,cap,cur,hv,hb,rest⟩
 ·exact .inl h2
 ·exact .inr ⟨g,cap,cur,hv,by omega,rest⟩
theorem AA.nil(c:Cd α)(w:World)(B:Nat)(S:Nat->Prop)(e:TypeId):AA c w B S e [] (.slice none 0 0):=
 ⟨[],World.ownsRow_nil w B e c.n,fun i x h=>by simp at h⟩
theorem AA.keep(h:AA c w B S e xs v)(hg:∀g,v.ownBlock=some g->w'.heap[g]? =w.heap[g]?)(hS:∀k,S k->S' k)(hk:∀k,S k->w'.heap[k]? =w.heap[k]?):AA c w' B S' e xs v:=by
 obtain⟨cs,⟨h1,h2⟩,h3⟩:=h
 refine⟨cs,⟨h1,?_⟩,fun i x hx=>c.mono (h3 i x hx) hS hk⟩
 rcases h2 with h2|⟨g,cap,cur,rfl,hb,hh,rest⟩
 ·exact .inl h2
 ·exact .inr ⟨g,cap,cur,rfl,hb,(hg g rfl).trans hh,rest⟩
theorem AA.ext[DO c](h:AA c w B (Iv 0 0) e xs v)(he:AD w w'):AA c w' B (Iv 0 0) e xs v:=
 h.keep (fun g hg=>he.block g (h.blk g hg).2) (fun _ h=>h) (fun k h=>absurd h.2 (Nat.not_lt_zero k))
theorem AA.upd[DO c]{b:Nat}(h:AA c w B (Iv 0 0) e xs v)(hu:El b w w')(hne:∀g,v.ownBlock=some g->g≠b):AA c w' B (Iv 0 0) e xs v:=
 h.keep (fun g hg=>hu.block g (hne g hg)) (fun _ h=>h) (fun k h=>absurd h.2 (Nat.not_lt_zero k))
theorem AA.sl(h:AA c w B S e xs v)(hS:∀k,S k->S' k)(hB:∀k,B<=k->k<w.heap.size->S' k):AK c w S' xs v:=by
 obtain⟨cs,h0,h3⟩:=h
 have h1:=h0
 obtain⟨hl,⟨rfl,hn⟩|⟨g,cap,cur,rfl,hb,hh,h5,h6,h7,h8⟩⟩:=h1
 ·have:xs=[]:=List.eq_nil_of_length_eq_zero hn
  subst this;exact AK.nil _ _ _
 ·have hlt:g<w.heap.size:=(Array.getElem?_eq_some_iff.1 hh).1
  refine⟨some ⟨g,0,none⟩,cap,rfl,⟨h5,fun h=>by cases h⟩,by simpa [maxLen] using h6,fun hpos=>⟨g,0,rfl,hB g hb hlt,fun i x hx=>⟨_,c.mono (h3 i x hx) hS (fun _ _=>rfl),fun j u hu=>?_⟩⟩⟩
  have hjn:j<c.n:=by
   have:=(List.getElem?_eq_some_iff.1 hu).1
   simp [Ax]at this;omega
  rw [Bf hjn]at hu
  have:=h0.cells (g:=g) rfl _ _ hu
  rw [DU]at this
  rw [show 0+i*c.n+j=0+(i*c.n+j) by omega];exact⟨this,by simp [World.frozen?,hh]⟩
theorem AA.slf[DO c]{lo hi:Nat}(h:AA c w B (Iv 0 0) e xs v)(h1:lo<=B:=by omega)(h2:w.heap.size<=hi:=by omega):AK c w (Iv lo hi) xs v:=
 h.sl (fun k h=>absurd h.2 (Nat.not_lt_zero k)) (fun k h3 h4=>⟨by omega,by omega⟩)
end
theorem NV{α:Type}{xs:List α}{i j:Nat}{y x:α}(h:(xs.set i y)[j]? =some x):(i=j∧x=y)∨(i≠j∧xs[j]? =some x):=by
 rw [List.getElem?_set]at h
 split at h
 ·rename_i e;subst e
  split at h
  ·injection h with h;exact .inl ⟨rfl,h.symm⟩
  ·cases h
 ·rename_i e;exact .inr ⟨e,h⟩
def HT(cs:List Value)(p:Nat)(us:List Value):List Value:=cs.take p++us++cs.drop (p+us.length)
theorem Ll{cs us:List Value}{p:Nat}(h:p+us.length<=cs.length):(HT cs p us).length=cs.length:=by
 simp [HT];omega
theorem Gt{cs us:List Value}{p k:Nat}(h:p+us.length<=cs.length):(HT cs p us)[k]? =if p<=k∧k<p+us.length then us[k-p]? else cs[k]?:=by
 have hp:(cs.take p).length=p:=by simp;omega
 unfold HT
 by_cases h1:k<p
 ·rw [if_neg (by omega),List.append_assoc,List.getElem?_append_left (by omega),List.getElem?_take,if_pos h1]
 ·by_cases h2:k<p+us.length
  ·rw [if_pos (by omega),List.append_assoc,List.getElem?_append_right (by omega),hp,List.getElem?_append_left (by omega)]
  ·rw [if_neg (by omega),List.getElem?_append_right (by simp;omega),List.getElem?_drop]
   congr 1
   simp;omega
section
variable {P:Program} {N:Nat} {α:Type} {c:Cd α} {w:World} {B:Nat} {S:Nat -> Prop} {e:TypeId} {xs:List α} {v:Value} {o:Oper} {K:KL}
theorem SQ{t x}(ho:o.op= .call { callee:=.builtin .len,args:=#[x],argTypes:=#[t] })(hu:P.underlying t=some (.slice e))(hx:CL K x=some v)(hs:AA c w B S e xs v):
 Ec P N K o w (.int .i64 xs.length):=by
 obtain⟨cs,⟨_,⟨rfl,hn⟩|⟨g,cap,cur,rfl,_⟩⟩,_⟩:=hs
 ·have:=Qg (N:=N) (w:=w) ho hu hx;rw [hn];exact this
 ·exact Qg ho hu hx
theorem MJ{y:α}{t x i k m}(ho:o.op= .indexAddr t x i)(hu:P.underlying t=some (.slice e))(hc:Ar P e=some c.n)(hx:CL K x=some v)
 (hi2:CL K i=some (.int k m)) (hs:AA c w B S e xs v) (hg:AG xs m=some y):
 YE P N K o w (fun u=>∃g us,u= .pointer (some ⟨g,0+m.toNat*c.n,none⟩)∧v.ownBlock=some g∧c.rep w S y us∧AR w g (0+m.toNat*c.n) us):=by
 obtain⟨cs,h0,h3⟩:=hs
 obtain⟨g0,g1,g2⟩:=EQ hg
 have h1:=h0
 obtain⟨hl,⟨rfl,hn⟩|⟨g,cap,cur,rfl,hb,hh,h5,h6,h7,h8⟩⟩:=h1
 ·omega
 ·refine⟨_,Eh ho hu hc hx hi2 g0 g1,g,_,rfl,rfl,h3 _ _ g2,fun j u hu=>?_⟩
  have hjn:j<c.n:=by
   have:=(List.getElem?_eq_some_iff.1 hu).1
   simp [Ax]at this;omega
  rw [Bf hjn]at hu
  have:=h0.cells (g:=g) rfl _ _ hu
  rw [DU]at this
  rw [show 0+m.toNat*c.n+j=0+(m.toNat*c.n+j) by omega];exact⟨this,by simp [World.frozen?,hh]⟩
theorem Al{t x y u g m us us' y0 y'}(j off:Nat)(ho:o.op= .store t x y)(hx:CL K x=some (.pointer (some ⟨g,off,none⟩)))(hy:CL K y=some u)(hs:AA c w B S e xs v)
 (hg:v.ownBlock=some g) (hm:AG xs m=some y0) (hoff:off=0+m.toNat*c.n+j) (hn:Ar P t=some u.cells.toList.length) (h1:u.cells.toList.all Value.oneCell'=true) (hrep:c.rep w S y0 us)
 (hcl:AR w g (0+m.toNat*c.n) us)
 (hus:us'=HT us j u.cells.toList) (hfit:Nat.ble (j+u.cells.toList.length) us.length=true) (hrep':c.rep w S y' us') (hS:∀k,S k->k≠g):
 MG P N K o w (fun _ w'=>El g w w'∧AA c w' B S e (xs.set m.toNat y') v):=by
 obtain⟨cs,h0,h3⟩:=hs
 obtain⟨g0,g1,g2⟩:=EQ hm
 have h1':=h0
 obtain⟨hl,⟨rfl,_⟩|⟨g',cap,cur,rfl,hb,hh,h5,h6,h7,h8⟩⟩:=h1'
 ·simp [Value.ownBlock]at hg
 simp [Value.ownBlock]at hg
 subst hg
 have hfit:=Nat.le_of_ble_eq_true hfit
 have husl:us.length=c.n:=c.len hrep
 have hmn:(m.toNat+1)*c.n<=xs.length*c.n:=Nat.mul_le_mul_right _ (by omega)
 rw [Nat.add_mul]at hmn
 have hcap:xs.length*c.n<=cap*c.n:=Nat.mul_le_mul_right _ h5
 obtain⟨ti,hi,hsz⟩:=Option.map_eq_some_iff.1 hn
 have hst:=run_storeCells_at P g' off e u.cells.toList 0 cur w hh (by rw [h7];omega) (List.all_eq_true.1 h1)
 simp only [Nat.add_zero]at hst
 intro a hK Kt Q hk
 have hr:(execOp a.eval o).run P w= .ok .skip (w.setRow g' (HT cur.toList off u.cells.toList).toArray):=by
  simp [execOp,ho,hK.ev hx,hK.ev hy,Instr.storeAt,Instr.sureAddr,storeVar,Sem.run_bind,sizeOf,typeInfo,hi,hsz,HT]at hst ⊢
  rw [hst]
  simp
 unfold Oper.wp
 rw [hr]
 clear hr hst h1 hy hsz hn ho
 revert hus hfit hk
 generalize u.cells.toList=us2
 intro hus hfit hk
 refine hk _ _ ⟨El.setRow _ _ _,HT cs off us2,⟨?_,.inr ⟨g',cap,_,by simp,hb,setRow_heap w g' cur _ e _ hh,by simpa using h5,h6,?_,?_⟩⟩,?_⟩
 ·rw [Ll (by rw [hl];omega),hl];simp
 ·have:=Ll (cs:=cur.toList) (us:=us2) (p:=off) (by simp [h7];omega)
  simp only [List.size_toArray,this];simpa using h7
 ·apply List.ext_getElem?
  intro k
  rw [List.length_set]
  simp only [List.toList_toArray]
  rw [List.getElem?_take,Gt (cs:=cs) (by rw [hl];omega)]
  split
  ·rename_i hk2
   rw [Gt (by simp [h7];omega)]
   split
   ·rfl
   ·rw [←h8,List.getElem?_take,if_pos hk2]
  ·rename_i hk2
   rw [if_neg (by omega)]
   symm;rw [List.getElem?_eq_none];omega
 ·intro i x hx2
  rcases NV hx2 with ⟨rfl,rfl⟩|⟨hne,hx3⟩
  ·have e1:Ax (HT cs off us2) c.n m.toNat=us':=by
    apply List.ext_getElem?
    intro q
    by_cases hq:q<c.n
    ·rw [Bf hq,Gt (by rw [hl];omega),hus,Gt (by omega)]
     have hcq:cs[m.toNat*c.n+q]? =us[q]?:=by
      have a1:us[q]? =some (us[q]'(by omega)):=List.getElem?_eq_getElem _
      have a2:=(hcl q _ a1).1
      have hlt2:m.toNat*c.n+q<cs.length:=by rw [hl];omega
      have a3:=h0.cells (g:=g') rfl (m.toNat*c.n+q) _ (List.getElem?_eq_getElem hlt2)
      rw [DU]at a3
      rw [show 0+m.toNat*c.n+q=0+(m.toNat*c.n+q) by omega,a3]at a2
      rw [a1,List.getElem?_eq_getElem hlt2];exact a2
     split
     ·rename_i hc2
      rw [if_pos (by omega)];congr 1;omega
     ·rename_i hc2
      rw [if_neg (by omega)];exact hcq
    ·rw [List.getElem?_eq_none (by simp [Ax];omega),List.getElem?_eq_none]
     rw [hus,Ll (by omega)];omega
   rw [e1]
   exact c.mono hrep' (fun _ h=>h) (fun k hk3=>setRow_other _ _ _ _ (hS k hk3))
  ·have e1:Ax (HT cs off us2) c.n i=Ax cs c.n i:=by
    have hilt:i<xs.length:=(List.getElem?_eq_some_iff.1 hx3).1
    apply List.ext_getElem?
    intro q
    by_cases hq:q<c.n
    ·rw [Bf hq,Bf hq,Gt (by rw [hl];omega)]
     rw [if_neg]
     rcases Nat.lt_or_gt_of_ne hne with h|h
     ·have:(m.toNat+1)*c.n<=i*c.n:=Nat.mul_le_mul_right _ h
      rw [Nat.add_mul]at this;omega
     ·have:(i+1)*c.n<=m.toNat*c.n:=Nat.mul_le_mul_right _ h
      rw [Nat.add_mul]at this;omega
    ·rw [List.getElem?_eq_none (by simp [Ax];omega),List.getElem?_eq_none (by simp [Ax];omega)]
   rw [e1]
   exact c.mono (h3 i x hx3) (fun _ h=>h) (fun k hk3=>setRow_other _ _ _ _ (hS k hk3))
/-! ### make -/
def ME(m:Int)(bytes:Nat):Option Nat:=if 0<=m∧m*bytes<=281474976710656∧m<=9223372036854775807 then some m.toNat else none
def DT(P:Program)(t:Nat):Option (List Value×Nat×Nat):=(P.info? t).bind fun i=>i.zero.map fun z=>(z.cells.toList,i.size,i.bytes)
theorem Nh{zs:List Value}{k i:Nat}(hi:i<k)(hz:0<zs.length):Ax (madeCells zs.toArray (k*zs.length)).toList zs.length i=zs:=by
 apply List.ext_getElem?
 intro q
 by_cases hq:q<zs.length
 ·rw [Bf hq]
  have:(i+1)*zs.length<=k*zs.length:=Nat.mul_le_mul_right _ hi
  rw [Nat.add_mul]at this
  simp only [madeCells,Array.toList_map,Array.toList_range,List.getElem?_map]
  rw [List.getElem?_range (by omega)]
  simp [Nat.mul_add_mod_self_right,Nat.mod_eq_of_lt hq,hq]
 ·rw [List.getElem?_eq_none (by simp [Ax];omega),List.getElem?_eq_none (by omega)]
theorem CM{t l c2 zs sz by' m m' k z kd kd'}(ho:o.op= .makeSlice t l c2)(hu:P.underlying t=some (.slice e))(hi:DT P e=some (zs,sz,by'))(hl:CL K l=some (.int kd m))(hc:CL K c2=some (.int kd' m'))(hmm:m'=m)
 (hk:ME m by'=some k) (hsz:sz=c.n) (hpos:Nat.blt 0 c.n=true) (hz:∀w,c.rep w (Iv 0 0) z zs):
 MG P N K o w (fun u w'=>∃g,u= .slice (some ⟨g,0,none⟩) k k∧g=w.heap.size∧w'.heap.size=w.heap.size+1∧AD w w'∧AA c w' g (Iv 0 0) e (List.replicate k z) u):=by
 subst hmm
 unfold DT at hi
 obtain⟨i,hi1,hi2⟩:=Option.bind_eq_some_iff.1 hi
 obtain⟨zv,hz1,hz2⟩:=Option.map_eq_some_iff.1 hi2
 simp only [Prod.mk.injEq]at hz2
 obtain⟨e1,e2,e3⟩:=hz2
 unfold ME at hk
 split at hk
 ·rename_i hm
  injection hk with hk
  have hlen:zs.length=c.n:=c.len (hz w)
  have hr:=run_make (P:=P) w t e i zv hu hi1 hz1 kd kd' m' m' hm.1 (Int.le_refl _) (by rw [e3,Int.mul_comm];exact hm.2.1) hm.2.2
  intro a hK Kt Q hkk
  have hr2:(execOp a.eval o).run P w= .ok (.value (.slice (some ⟨w.heap.size,0,none⟩) m'.toNat m'.toNat)) (w.alloc (.cells (madeCells zv.cells (m'.toNat*i.size)) e)):=by
   simp [execOp,ho,hK.ev hl,hK.ev hc,hr]
  unfold Oper.wp
  rw [hr2]
  refine hkk _ _ ⟨w.heap.size,by rw [hk],rfl,by simp,AD.alloc _ _,?_⟩
  have hp:0<c.n:=by have h:=hpos;simp [Nat.blt]at h;omega
  have hzc:zv.cells=zs.toArray:=by rw [←e1]
  refine⟨(madeCells zv.cells (m'.toNat*i.size)).toList,⟨?_,.inr ⟨w.heap.size,k,_,by rw [List.length_replicate,hk],Nat.le_refl _,heap_alloc_new w _,by simp,by simp only [maxLen];omega,?_,?_⟩⟩,?_⟩
  ·simp [size_madeCells,e2,hsz,hk]
  ·simp [size_madeCells,e2,hsz,hk]
  ·rw [List.take_of_length_le];simp [size_madeCells,e2,hsz,hk]
  ·intro q x hx
   have hq:q<k:=by have:=(List.getElem?_eq_some_iff.1 hx).1;simpa using this
   have hxz:x=z:=by simpa [hq] using hx.symm
   subst hxz
   rw [hzc,e2,hsz,←hlen,hk,Nh hq (by omega)]
   exact c.mono (hz w) (fun _ h=>h) (fun k h=>absurd h.2 (Nat.not_lt_zero k))
 ·cases hk
end
end Go.Eng
namespace Go.Eng
open Go Go.RowKit
/-! ## append, literals -/
def Dm{α:Type}(xs ys:List α)(bytes:Nat):Option (List α):=if (xs.length+ys.length)*bytes<=140737488355328∧xs.length+ys.length<=9223372036854775807 then some (xs++ys)else none
def BU:List (List Value)->List Value
 |[]=>[]
 |us::uss=>us++BU uss
theorem GU{n:Nat}:∀{uss:List (List Value)},(∀us∈uss,us.length=n)->(BU uss).length=uss.length*n
 |[],_=>by simp [BU]
 |us::uss,h=>by
  simp only [BU,List.length_append,List.length_cons,Nat.add_mul]
  rw [h us (List.mem_cons_self ..),GU (fun x hx=>h x (List.mem_cons_of_mem _ hx))]
  omega
theorem JC{n:Nat}:∀{uss:List (List Value)} {i q:Nat} {us:List Value},(∀us∈uss,us.length=n)->uss[i]? =some us->q<n->(BU uss)[i*n+q]? =us[q]?
 |[],i,q,us,_,h,_=>by simp at h
 |u0::uss,0,q,us,hl,h,hq=>by
  simp at h;subst h
  simp only [BU]
  rw [List.getElem?_append_left (by rw [hl u0 (List.mem_cons_self ..)];omega)]
  congr 1;omega
 |u0::uss,i+1,q,us,hl,h,hq=>by
  have hl0:=hl u0 (List.mem_cons_self ..)
  simp only [BU]
  rw [List.getElem?_append_right (by rw [hl0,Nat.add_mul];omega)]
  have:=JC (uss:=uss) (i:=i) (q:=q) (fun x hx=>hl x (List.mem_cons_of_mem _ hx)) (by simpa using h) hq
  rw [←this]
  congr 1
  rw [hl0,Nat.add_mul];omega
theorem LO{n:Nat}{uss:List (List Value)}{i:Nat}{us:List Value}(hl:∀us∈uss,us.length=n)(h:uss[i]? =some us):Ax (BU uss) n i=us:=by
 have hus:=hl us (List.mem_of_getElem? h)
 apply List.ext_getElem?
 intro q
 by_cases hq:q<n
 ·rw [Bf hq,JC hl h hq]
 ·rw [List.getElem?_eq_none (by simp [Ax];omega),List.getElem?_eq_none (by omega)]
theorem AK.all'{α:Type}{c:Cd α}{w:World}{S:Nat->Prop}{xs:List α}{v:Value}(h:AK c w S xs v)(hn:0<c.n):
 ∃uss:List (List Value),uss.length=xs.length∧(∀us∈uss,us.length=c.n)∧(∀(i:Nat) (x:α) (us:List Value),xs[i]? =some x->uss[i]? =some us->c.rep w S x us)∧
  ∃(a:Option Addr) (cap:Nat),v= .slice a xs.length cap∧(a=none->cap=0)∧(xs.length=0∨∃b off,a=some ⟨b,off,none⟩∧S b∧∀j u,(BU uss)[j]? =some u->w.cell? ⟨b,off+j,none⟩=some u):=by
 obtain⟨a,cap,rfl,h2,h3,h4⟩:=h
 by_cases hl:0<xs.length
 ·obtain⟨b,off,rfl,hb,h5⟩:=h4 hl
  have hch:∀i,i<xs.length->∃us,∀x,xs[i]? =some x->c.rep w S x us∧AR w b (off+i*c.n) us:=by
   intro i hi
   obtain⟨us,h6⟩:=h5 i _ (List.getElem?_eq_getElem hi)
   refine⟨us,fun x hx=>?_⟩
   have:x=xs[i]:=by rw [List.getElem?_eq_getElem hi]at hx;exact(Option.some.inj hx).symm
   subst this;exact h6
  obtain⟨f,hf⟩:=Go.Deep.choose_lt hch
  have hlen:∀us∈(List.range xs.length).map f,us.length=c.n:=by
   intro us hus
   obtain⟨i,hi,rfl⟩:=List.mem_map.1 hus
   exact c.len (hf i (List.mem_range.1 hi) _ (List.getElem?_eq_getElem (List.mem_range.1 hi))).1
  refine⟨(List.range xs.length).map f,by simp,hlen,?_,some ⟨b,off,none⟩,cap,rfl,h2.2,.inr ⟨b,off,rfl,hb,?_⟩⟩
  ·intro i x us hx hus
   have hi:i<xs.length:=(List.getElem?_eq_some_iff.1 hx).1
   simp [hi]at hus;subst hus
   exact(hf i hi x hx).1
  ·intro j u hu
   have hj:j<xs.length*c.n:=by
    have:=(List.getElem?_eq_some_iff.1 hu).1
    rw [GU hlen]at this;simpa using this
   have hi:j/c.n<xs.length:=Nat.div_lt_of_lt_mul (by rw [Nat.mul_comm];exact hj)
   have hd:j/c.n*c.n+j%c.n=j:=by rw [Nat.mul_comm];exact Nat.div_add_mod j c.n
   have hg:=JC (uss:=(List.range xs.length).map f) (i:=j/c.n) (q:=j%c.n) (us:=f (j/c.n)) hlen (by simp [hi]) (Nat.mod_lt _ hn)
   rw [hd,hu]at hg
   have:=(hf _ hi _ (List.getElem?_eq_getElem hi)).2 (j%c.n) u hg.symm
   rw [show off+j/c.n*c.n+j%c.n=off+j by omega]at this;exact this.1
 ·refine⟨[],by simp;omega,by simp,fun i x us hx hus=>by simp at hus,a,cap,rfl,h2.2,.inl (by omega)⟩
theorem Uq{P:Value->Bool}:∀{uss:List (List Value)},(∀us∈uss,us.all P=true)->∀u∈BU uss,P u=true
 |[],_=>by simp [BU]
 |us::uss,h=>by
  intro u hu
  simp only [BU,List.mem_append]at hu
  rcases hu with hu|hu
  ·exact List.all_eq_true.1 (h us (List.mem_cons_self ..)) u hu
  ·exact Uq (fun x hx=>h x (List.mem_cons_of_mem _ hx)) u hu
section
variable {P:Program} {N:Nat} {α:Type} {c:Cd α} {w:World} {B:Nat} {S S' S2:Nat -> Prop} {e:TypeId} {xs ys zs:List α} {v:Value} {o:Oper} {K:KL}
def BE(w w':World)(v v':Value):Prop:=w.grownBy w' v.ownBlock∧∀g,v'.ownBlock=some g->v.ownBlock=some g∨w.heap.size<=g
theorem UA{t x y u zc sz by'}(ho:o.op= .call { callee:=.builtin .append,args:=#[x,y],argTypes:=#[t,t] })(hu:P.underlying t=some (.slice e))(hi:DT P e=some (zc,sz,by'))(hsz:sz=c.n)(hzc:zc.length=sz)
 (hpos:Nat.blt 0 c.n=true) (hx:CL K x=some v) (hy:CL K y=some u) (hs:AA c w B S e xs v) (hb:B<=w.heap.size) (hr:AK c w S2 ys u) (ha:Dm xs ys by'=some zs)
 (hS:∀k,S k->S' k) (hS2:∀x us,c.rep w S2 x us->c.rep w S' x us) (hS3:∀k,S' k->k<w.heap.size∧v.ownBlock≠some k):
 MG P N K o w (fun v' w'=>AA c w' B S' e zs v'∧BE w w' v v'):=by
 have hp:0<c.n:=by have h:=hpos;simp [Nat.blt]at h;omega
 obtain⟨cs,h0,h3⟩:=hs
 obtain⟨uss,hul,hun,hur,a,cap,rfl,hnone,hcase⟩:=AK.all' hr hp
 unfold DT at hi
 obtain⟨i,hi1,hi2⟩:=Option.bind_eq_some_iff.1 hi
 obtain⟨z,hz1,hz2⟩:=Option.map_eq_some_iff.1 hi2
 simp only [Prod.mk.injEq]at hz2
 obtain⟨e1,e2,e3⟩:=hz2
 unfold Dm at ha
 split at ha
 case isFalse=>cases ha
 rename_i hbound
 injection ha with ha;subst ha
 intro a' hK Kt Q hk
 have hcl:(BU uss).length=ys.length*c.n:=by rw [GU hun,hul]
 have elems:∀(w':World),w.grownBy w' v.ownBlock->∀q x,(xs++ys)[q]? =some x->c.rep w' S' x (Ax (cs++BU uss) c.n q):=by
  intro w' hgr q x hx2
  have keep:∀k,S' k->w'.heap[k]? =w.heap[k]?:=fun k hk=>hgr.block k (hS3 k hk).1 (fun e=>(hS3 k hk).2 e.symm)
  by_cases hq:q<xs.length
  ·rw [List.getElem?_append_left hq]at hx2
   have e4:Ax (cs++BU uss) c.n q=Ax cs c.n q:=by
    apply List.ext_getElem?
    intro j
    by_cases hj:j<c.n
    ·rw [Bf hj,Bf hj,List.getElem?_append_left]
     have:(q+1)*c.n<=xs.length*c.n:=Nat.mul_le_mul_right _ hq
     rw [Nat.add_mul]at this;rw [h0.1];omega
    ·rw [List.getElem?_eq_none (by simp [Ax];omega),List.getElem?_eq_none (by simp [Ax];omega)]
   rw [e4];exact c.mono (h3 q x hx2) hS (fun k hk=>keep k (hS k hk))
  ·rw [List.getElem?_append_right (by omega)]at hx2
   have hq2:q-xs.length<uss.length:=by rw [hul];exact(List.getElem?_eq_some_iff.1 hx2).1
   have e4:Ax (cs++BU uss) c.n q=uss[q-xs.length]:=by
    have:=LO (i:=q-xs.length) hun (List.getElem?_eq_getElem hq2)
    rw [←this]
    apply List.ext_getElem?
    intro j
    by_cases hj:j<c.n
    ·rw [Bf hj,Bf hj]
     have h5:xs.length*c.n<=q*c.n:=Nat.mul_le_mul_right _ (by omega)
     rw [List.getElem?_append_right (by rw [h0.1];omega)]
     congr 1
     rw [h0.1,Nat.sub_mul];omega
    ·rw [List.getElem?_eq_none (by simp [Ax];omega),List.getElem?_eq_none (by simp [Ax];omega)]
   rw [e4];exact c.mono (hS2 _ _ (hur _ x _ hx2 (List.getElem?_eq_getElem hq2))) (fun _ h=>h) (fun k hk=>keep k hk)
 have hzs2:z.cells.size=c.n:=by rw [←hsz,←hzc,←e1];simp
 have one:∀u∈BU uss,u.oneCell'=true:=Uq fun us hus=>by
  obtain⟨q,hq,rfl⟩:=List.mem_iff_getElem.1 hus
  exact c.one (hur q _ _ (List.getElem?_eq_getElem (by omega)) (List.getElem?_eq_getElem hq))
 have step:∀v' w',(Builtin.append_ #[t,t] o.type #[v,.slice a ys.length cap]).run P w= .ok v' w'->(execOp a'.eval o).run P w= .ok (.value v') w':=by
  intro v' w' hrun
  unfold execOp
  simp only [ho,resolve,invoke,builtin,Sem.run_bind,Sem.run_pure,Result.andThen_ok,List.map_toArray,List.map_cons,List.map_nil,hK.ev hx,hK.ev hy,hrun]
 cases a with
 |none=>
  have hc0:=hnone rfl
  subst hc0
  have hy0:ys.length=0:=by
   rcases hcase with h|⟨b,off,h,_⟩
   ·exact h
   ·cases h
  have hys:ys=[]:=List.eq_nil_of_length_eq_zero hy0
  subst hys
  have hrun:=run_append_owned_none (P:=P) w B t o.type e i c.n hu hi1 v xs.length cs h0
  unfold Oper.wp
  rw [step v w hrun]
  have hgr:w.grownBy w v.ownBlock:=World.grownBy.refl w _
  have huss:uss=[]:=List.eq_nil_of_length_eq_zero (by simpa using hul)
  subst huss
  refine hk _ _ ⟨⟨cs,by simpa using h0,fun q x hx2=>?_⟩,hgr,fun g hg=>.inl hg⟩
  have:=elems w hgr q x hx2
  simpa [BU] using this
 |some ad=>
  have hnews:∀j u,(BU uss)[j]? =some u->w.cell? (ad.add j)=some u:=by
   intro j u hu2
   rcases hcase with h|⟨b,off,h,_,h5⟩
   ·have:uss=[]:=List.eq_nil_of_length_eq_zero (by omega)
    subst this;simp [BU]at hu2
   ·injection h with h;subst h
    rw [DU];exact h5 j u hu2
  have hb2:(xs.length+ys.length)*by'<=140737488355328:=hbound.1
  obtain⟨v',w',hrun,hown,hgr,_⟩:=run_append_own (P:=P) w B t o.type e i z c.n by' hu hi1 hz1 (by rw [e2,hsz]) e3 hzs2 hp v xs.length cs h0 ad ys.length cap (BU uss) hcl hnews one (by simp only [maxLen];omega) hb2 hb
  have hfresh:∀g,v'.ownBlock=some g->v.ownBlock=some g∨w.heap.size<=g:=by
   rcases h0.2 with ⟨rfl,hn⟩|⟨g0,cap0,cur,rfl,hbg,hh,h5,h6,h7,h8⟩
   ·have hnil:w.ownsRow w.heap.size e c.n (.slice none 0 0) xs.length cs:=⟨h0.1,.inl ⟨rfl,hn⟩⟩
    obtain⟨v2,w2,hrun2,hown2,_⟩:=run_append_own (P:=P) w w.heap.size t o.type e i z c.n by' hu hi1 hz1 (by rw [e2,hsz]) e3 hzs2 hp _ xs.length cs hnil ad ys.length cap (BU uss) hcl hnews one (by simp only [maxLen];omega) hb2 (Nat.le_refl _)
    rw [hrun]at hrun2
    injection hrun2 with e5 e6
    subst e5
    intro g hg;exact .inr (hown2.lt g hg).1
   ·by_cases hroom:xs.length+ys.length<=cap0
    ·have hfit:xs.length*i.size+(BU uss).length<=cur.size:=by
      rw [hcl,h7,e2,hsz,←Nat.add_mul];exact Nat.mul_le_mul_right _ hroom
     have hr2:=run_append_room (P:=P) w t o.type e i hu hi1 g0 xs.length cap0 cur hh ad ys.length cap (BU uss) (by rw [e2,hsz];exact hcl) hnews one hroom hfit
     rw [hrun]at hr2
     injection hr2 with e5 e6
     subst e5
     intro g hg;exact .inl hg
    ·have holds:∀j u,cs[j]? =some u->w.cell? ((⟨g0,0,none⟩:Addr).add j)=some u:=h0.cells (g:=g0) rfl
     have hr2:=run_append_grow (P:=P) w t o.type e i z hu hi1 hz1 ⟨g0,0,none⟩ xs.length cap0 cs (by rw [e2,hsz];exact h0.1) holds ad ys.length cap (BU uss) (by rw [e2,hsz];exact hcl) hnews (by omega) (by omega) (growslice_fits (by omega) (by rw [e3];exact hb2))
     rw [hrun]at hr2
     injection hr2 with e5 e6
     subst e5
     intro g hg
     simp [Value.ownBlock]at hg
     exact .inr (by omega)
  unfold Oper.wp
  rw [step v' w' hrun]
  exact hk _ _ ⟨⟨cs++BU uss,by simpa using hown,elems w' hgr⟩,hgr,hfresh⟩
end
end Go.Eng
namespace Go.Eng
open Go Go.RowKit
/-! ## Literals -/
def Jd(pl:List (Nat×Nat)):List Value->List (Nat×List Value)->Option (List Value)
 |zs,[]=>some zs
 |zs,(i,us)::ps=>match pl[i]? with
  |none=>none
  |some (off,size)=>if Nat.beq us.length size&&Nat.ble (off+us.length) zs.length then Jd pl (zs.take off++us++zs.drop (off+us.length)) ps else none
theorem WY(us:List Value):∀(off k:Nat) (cs:Array Value),off+k+us.length<=cs.size->
 ((us.zipIdx k).foldl (fun cs (p:Value×Nat)=>cs.setIfInBounds (off+p.2) p.1) cs).toList=cs.toList.take (off+k)++us++cs.toList.drop (off+k+us.length):=by
 induction us with
 |nil=>intro off k cs h;simp
 |cons u us ih=>
  intro off k cs h
  simp only [List.length_cons]at h
  simp only [List.zipIdx_cons,List.foldl_cons]
  rw [ih off (k+1) _ (by simp;omega)]
  apply List.ext_getElem?
  intro j
  simp only [Array.toList_setIfInBounds,List.length_cons]
  have e1:off+(k+1)=off+k+1:=by omega
  have e2:off+k+1+us.length=off+k+(us.length+1):=by omega
  rw [e1,e2]
  have hl:(cs.toList.take (off+k)).length=off+k:=by simp;omega
  have hl2:((cs.toList.set (off+k) u).take (off+k+1)).length=off+k+1:=by simp;omega
  by_cases h1:j<off+k
  ·rw [List.append_assoc,List.getElem?_append_left (by omega),List.append_assoc,List.getElem?_append_left (by omega),List.getElem?_take,List.getElem?_take,if_pos (by omega),if_pos h1,List.getElem?_set_ne (by omega)]
  ·by_cases h2:j=off+k
   ·subst h2
    rw [List.append_assoc,List.getElem?_append_left (by omega),List.append_assoc,List.getElem?_append_right (by omega),hl,List.getElem?_take,if_pos (by omega),List.getElem?_set_self (by simp;omega)]
    simp
   ·by_cases h3:j<off+k+(us.length+1)
    ·rw [List.append_assoc,List.getElem?_append_right (by omega),hl2,List.getElem?_append_left (by omega),List.append_assoc,List.getElem?_append_right (by omega),hl,List.cons_append,show j-(off+k)=(j-(off+k+1))+1 by omega,List.getElem?_cons_succ,List.getElem?_append_left (by omega)]
    ·rw [List.getElem?_append_right (by simp;omega),List.getElem?_append_right (by simp;omega),List.getElem?_drop,List.getElem?_drop]
     simp only [List.length_append,hl,hl2,List.length_cons]
     rw [List.getElem?_set_ne (by omega)]
     congr 1;omega
theorem NW{place:Nat->Option (Nat×Nat)}{pl:List (Nat×Nat)}(hp:∀i x,pl[i]? =some x->place i=some x):∀(ps:List (Nat×Value)) (uss:List (Nat×List Value)) (cs:Array Value) (out:List Value),
 ps.map (fun p=>(p.1,p.2.cells.toList))=uss->Jd pl cs.toList uss=some out->Instr.fill place cs ps=some out.toArray
 |[],uss,cs,out,h,hf=>by
  simp at h;subst h
  simp [Jd]at hf;subst hf
  simp [Instr.fill]
 |(i,v)::ps,uss,cs,out,h,hf=>by
  simp at h;subst h
  simp only [Jd]at hf
  split at hf
  ·cases hf
  ·rename_i off size hpl
   split at hf
   ·rename_i hc
    simp only [Bool.and_eq_true,Array.length_toList]at hc
    have hc1:v.cells.size=size:=Nat.eq_of_beq_eq_true hc.1
    have hc2:off+v.cells.size<=cs.size:=Nat.le_of_ble_eq_true hc.2
    rw [Instr.fill,hp i _ hpl]
    simp only
    rw [if_neg (by simp [hc1];omega)]
    refine NW hp ps _ _ out rfl ?_
    have:=WY v.cells.toList off 0 cs (by simp;omega)
    have e:(v.cells.zipIdx.foldl (fun cs (p:Value×Nat)=>cs.setIfInBounds (off+p.2) p.1) cs).toList=cs.toList.take off++v.cells.toList++cs.toList.drop (off+v.cells.toList.length):=by
     rw [←Array.foldl_toList,Array.toList_zipIdx]
     simpa using this
    rw [e];exact hf
   ·cases hf
def Ev(P:Program)(t:Nat):Option (List (Nat×Nat)):=
 match P.underlying t with
 |some (.struct fs)=>fs.toList.mapM fun f=>(P.info? f.type).map fun i=>(f.offset,i.size)
 |some (.array n e)=>(P.info? e).map fun i=>(List.range n).map fun k=>(k*i.size,i.size)
 |_=>none
def In(K:KL):List (Nat×Operand)->Option (List (Nat×Value))
 |[]=>some []
 |(i,x)::xs=>match CL K x,In K xs with|some v,some vs=>some ((i,v)::vs)|_,_=>none
section
variable {P:Program} {N:Nat} {α:Type} {c:Cd α} {w:World} {B:Nat} {S S':Nat -> Prop} {e:TypeId} {xs ys zs:List α} {v:Value} {o:Oper} {K:KL}
theorem Kn.parts{a}(h:Kn N K a):∀{xs vs},In K xs=some vs->xs.map (fun(p:Nat×Operand)=>(p.1,a.eval p.2))=vs
 |[],vs,e=>by simp [In]at e;subst e;rfl
 |(i,x)::xs,vs,e=>by
  unfold In at e
  split at e
  ·rename_i v vs' h1 h2
   injection e with e;subst e
   simp [h.ev h1,h.parts h2]
  ·cases e
theorem Tq{fs:List Field}{pl:List (Nat×Nat)}(h:fs.mapM (fun f=>(P.info? f.type).map fun i=>(f.offset,i.size))=some pl)(w:World):
 (fs.mapM (m:=Sem) fun f=>do pure (f.offset,←sizeOf f.type)).run P w= .ok pl w:=by
 induction fs generalizing pl with
 |nil=>simp at h;subst h;simp
 |cons f fs ih=>
  simp only [List.mapM_cons,Option.bind_eq_bind,Option.bind_eq_some_iff,Option.pure_def,Option.some.injEq]at h
  obtain⟨p,h1,ps,h2,rfl⟩:=h
  obtain⟨i,hi,rfl⟩:=Option.map_eq_some_iff.1 h1
  have:=ih h2
  simp [List.mapM_cons,sizeOf,typeInfo,hi]at this ⊢
  simp [this]
theorem BX{t parts vs uss zc pl out}(ho:o.op= .build t parts)(hp:In K parts.toList=some vs)(hz:Dk P t=some zc)(hpl:Ev P t=some pl)
 (hu:vs.map (fun p=>(p.1,p.2.cells.toList))=uss) (hf:Jd pl zc uss=some out):Ec P N K o w (.agg out.toArray):=by
 intro a hK w' _
 have e1:=hK.parts hp
 unfold Dk at hz
 obtain⟨i,hi,hz2⟩:=Option.bind_eq_some_iff.1 hz
 obtain⟨z,hz3,hz4⟩:=Option.map_eq_some_iff.1 hz2
 have ep:(parts.map fun(p:Nat×Operand)=>(p.1,a.eval p.2)).toList=vs:=by rw [Array.toList_map];exact e1
 unfold Ev at hpl
 split at hpl
 ·rename_i fs hus
  have hr:=Tq hpl w'
  have hfill:=NW (place:=fun i=>pl[i]?) (pl:=pl) (fun i x h=>h) vs uss z.cells out hu (by rw [hz4];exact hf)
  simp only [execOp,ho,Instr.build,zeroValue,typeInfo,Sem.run_bind,Result.andThen_ok,Sem.run_pure,run_underlying hus]
  have hm:(fs.mapM (m:=Sem) fun f=>do pure (f.offset,←sizeOf f.type)).run P w'= .ok pl.toArray w':=by
   rw [show fs=fs.toList.toArray by simp,List.mapM_toArray]
   have hr':=hr
   simp at hr' ⊢
   simp [hr']
  simp [hi,hz3]
  simp at hm
  rw [hm]
  have ep2:(Array.map (fun x=>(x.fst,a.eval x.snd)) parts).toList=vs:=ep
  simp at ep2
  simp [ep2,hfill]
 ·rename_i n e hus
  obtain⟨j,hj,rfl⟩:=Option.map_eq_some_iff.1 hpl
  have hfill:=NW (place:=fun i=>some (i*j.size,j.size)) (pl:=(List.range n).map fun k=>(k*j.size,j.size)) (fun i x h=>by
   have hin:i<n:=by have:=(List.getElem?_eq_some_iff.1 h).1;simpa using this
   simpa [hin] using h) vs uss z.cells out hu (by rw [hz4];exact hf)
  have ep2:(Array.map (fun x=>(x.fst,a.eval x.snd)) parts).toList=vs:=ep
  simp at ep2
  simp [execOp,ho,Instr.build,zeroValue,typeInfo,run_underlying hus,hi,hz3,sizeOf,hj,ep2,hfill]
 ·cases hpl
theorem JX{t len parts vs uss zc sz by' out}(ho:o.op= .buildSlice t len parts)(hu:P.underlying t=some (.slice e))(hi:DT P e=some (zc,sz,by'))(hp:In K parts.toList=some vs)
 (huss:vs.map (fun p=>(p.1,p.2.cells.toList))=uss) (hf:Jd ((List.range len).map fun k=>(k*sz,sz)) (madeCells zc.toArray (len*sz)).toList uss=some out)
 (hsm:Nat.ble (len*sz) 16777216=true) (hsz:sz=c.n) (hpos:Nat.blt 0 c.n=true) (hl:len=xs.length) (hrep:∀i x,xs[i]? =some x->c.rep w S x (Ax out c.n i)) (hS:∀k,S k->k<w.heap.size) (hol:out.length=len*sz):
 MG P N K o w (fun u w'=>∃g,u= .slice (some ⟨g,0,none⟩) len len∧g=w.heap.size∧w'.heap.size=w.heap.size+1∧AD w w'∧AA c w' g S e xs u):=by
 intro a hK Kt Q hk
 have e1:=hK.parts hp
 unfold DT at hi
 obtain⟨i,hi1,hi2⟩:=Option.bind_eq_some_iff.1 hi
 obtain⟨z,hz1,hz2⟩:=Option.map_eq_some_iff.1 hi2
 simp only [Prod.mk.injEq]at hz2
 obtain⟨e3,e4,e5⟩:=hz2
 have hsm:=Nat.le_of_ble_eq_true hsm
 have ep:(parts.map fun(p:Nat×Operand)=>(p.1,a.eval p.2)).toList=vs:=by rw [Array.toList_map];exact e1
 have hzc:z.cells=zc.toArray:=by rw [←e3]
 have hfill:=NW (place:=fun i=>some (i*sz,sz)) (pl:=(List.range len).map fun k=>(k*sz,sz)) (fun i x h=>by
  have hin:i<len:=by have:=(List.getElem?_eq_some_iff.1 h).1;simpa using this
  simpa [hin] using h) vs uss (madeCells zc.toArray (len*sz)) out huss hf
 have hr:(execOp a.eval o).run P w= .ok (.value (.slice (some ⟨w.heap.size,0,none⟩) len len)) (w.alloc (.cells out.toArray e)):=by
  have ep2:(Array.map (fun x=>(x.fst,a.eval x.snd)) parts).toList=vs:=ep
  have hle:¬(16777216<len*sz):=by omega
  by_cases h0:len*sz=0
  ·have hm:madeCells zc.toArray (len*sz)= #[]:=by rw [h0];simp [madeCells]
   rw [hm]at hfill
   simp at ep2
   simp [execOp,ho,Instr.buildSlice,run_underlying hu,sizeOf,typeInfo,hi1,e4,h0,ep2,Array.range_zero']
   skip
   simp [hfill,newRow,newObj]
   try simp [Sem.run,Result.andThen]
  ·simp at ep2
   simp [execOp,ho,Instr.buildSlice,run_underlying hu,sizeOf,typeInfo,hi1,e4,h0,hle,ep2,zeroValue,hz1]
   have hm:(Array.map (fun x=>z.cells[x%z.cells.size]!) (Array.range (len*sz)))=madeCells zc.toArray (len*sz):=by rw [hzc];rfl
   skip
   simp [hm,hfill,newRow,newObj]
   try simp [Sem.run,Result.andThen]
 unfold Oper.wp
 rw [hr]
 refine hk _ _ ⟨w.heap.size,rfl,rfl,by simp,AD.alloc _ _,out,?_,fun q x hx=>c.mono (hrep q x hx) (fun _ h=>h) (fun k hk=>Below.heap_alloc w _ k (hS k hk))⟩
 have h1:=World.ownsRow_lit (e:=e) (size:=c.n) w out.toArray len (Nat.le_refl w.heap.size) (by
  have:len<=len*sz:=Nat.le_mul_of_pos_right _ (by have h:=hpos;simp [Nat.blt]at h;omega)
  simp only [maxLen];omega) (by simp [hol,hsz])
 rw [←hl]
 simpa using h1
end
end Go.Eng
namespace Go.Eng
open Go Go.RowKit
/-! ## Regions whose order is drawn, with operations that act -/
section
variable {P:Program} {N:Nat} {ops:Array Oper} {Q:Exit -> Act -> World -> Prop} {md:Region.Mode} {S S':World -> Prop} {n:Nat}
def Cb(P:Program)(md:Region.Mode)(ops:Array Oper)(n:Nat)(Q:Exit->Act->World->Prop)(S:World->Prop):Nat->Array Bool->Act->World->Prop
 |0,listed,a,w=>Region.ready md ops listed=[]∧Q .normal a w
 |f+1,listed,a,w=>(Region.ready md ops listed=[]->Q .normal a w)∧
  ∀i∈Region.ready md ops listed,wpOp P ops Q i (fun a' w'=>(i<n->S w')∧Cb P md ops n Q S f (listed.setIfInBounds i true) a' w') a w
theorem Cb.any:∀(f:Nat) (listed:Array Bool) (a:Act) (w:World),Cb P md ops n Q S f listed a w->wpAny P md ops Q f listed a w
 |0,_,_,_,h=>h
 |f+1,_,_,_,h=>⟨h.1,fun i hi=>wpOp_mono (fun a' w' h'=>Cb.any f _ a' w' h'.2) (h.2 i hi)⟩
theorem Cb.mono(hS:∀w,S' w->S w):∀(f:Nat) (listed:Array Bool) (a:Act) (w:World),Cb P md ops n Q S' f listed a w->Cb P md ops n Q S f listed a w
 |0,_,_,_,h=>h
 |f+1,_,_,_,h=>⟨h.1,fun i hi=>wpOp_mono (fun a' w' h'=>⟨fun hn=>hS _ (h'.1 hn),Cb.mono hS f _ a' w' h'.2⟩) (h.2 i hi)⟩
theorem Cb.first{i:Nat}{oi:Oper}{v:Value}(hi:ops[i]? =some oi)(hin:i<n)(hnn:n<=ops.size)(hsel:∀(j:Nat) (o:Oper) cs b,ops[j]? =some o->o.op≠ .select cs b)
 (htail:n=ops.size∨(Region.sinkB md ops n=true∧Region.chainB md ops n=true∧n<ops.size))
 (hQ:∀c a w,Q (.panic c) (a.put oi.dst v) w->Q (.panic c) a w):
 ∀(f:Nat) (listed:Array Bool) (a:Act) (w:World),HeadInv md ops n listed->
  (∀j oj,ops[j]? =some oj->j≠i->listed.getD j true=false->(∀e∈oj.after,Region.binds md e=true->e.on≠i)->oi.apart ops oj=true)->
  i∈Region.ready md ops listed->YieldsIf P ops S oi v a->S w->
  Cb P md ops n Q S f (listed.setIfInBounds i true) (a.put oi.dst v) w->Cb P md ops n Q S (f+1) listed a w:=by
 have headonly:∀listed,HeadInv md ops n listed->i∈Region.ready md ops listed->∀j∈Region.ready md ops listed,j<n:=by
  intro listed inv hr j hj
  have hjs:j<ops.size:=by
   obtain⟨_,oj,hoj,_⟩:=mem_ready.1 hj
   exact(Array.getElem?_eq_some_iff.1 hoj).1
  rcases htail with h|⟨h1,h2,h3⟩
  ·omega
  ·rcases Nat.lt_or_ge j n with h|h
   ·exact h
   ·exact absurd hj (tail_waits h1 h2 h3 inv _ i rfl hin (mem_ready.1 hr).1 j h)
 intro f
 induction f with
 |zero=>
  intro listed a w inv _ hr hy hS H
  refine⟨fun h=>(by rw [h]at hr;cases hr),fun j hj=>?_⟩
  by_cases hji:j=i
  ·subst hji;exact hy.wpOp hi hS ⟨fun _=>hS,H⟩
  ·have:=ready_mono hj hji
   rw [H.1]at this
   cases this
 |succ f ih=>
  intro listed a w inv hfree hr hy hS H
  refine⟨fun h=>(by rw [h]at hr;cases hr),fun j hj=>?_⟩
  have hjn:=headonly listed inv hr j hj
  by_cases hji:j=i
  ·subst hji;exact hy.wpOp hi hS ⟨fun _=>hS,H⟩
  ·have h1:=H.2 j (ready_mono hj hji)
   obtain⟨hjun,oj,hoj,hall⟩:=mem_ready.1 hj
   have hnot:∀e∈oj.after,Region.binds md e=true->e.on≠i:=fun e he hb heq=>by
    have h1:=hall e he hb
    rw [heq,getD_both (mem_ready.1 hr).1]at h1
    cases h1
   have h2:=wpOp_putIf hoj (hfree j oj hoj hji hjun hnot) (fun cs b=>hsel i oi cs b hi) (fun cs b=>hsel j oj cs b hoj) hQ hy h1
   have hfree':∀k ok,ops[k]? =some ok->k≠i->(listed.setIfInBounds j true).getD k true=false->
    (∀e∈ok.after,Region.binds md e=true->e.on≠i)->oi.apart ops ok=true:=fun k ok hk hki hun hno=>by
    refine hfree k ok hk hki ?_ hno
    by_cases hjk:j=k
    ·subst hjk;exact hjun
    ·rw [getD_set_ne true hjk]at hun;exact hun
   refine wpOp_mono (fun a' w' h3=>⟨fun _=>h3.2.1 hjn,ih (listed.setIfInBounds j true) a' w' (inv.set hj hjn) hfree' (ready_mono hr (Ne.symm hji)) h3.1 (h3.2.1 hjn) ?_⟩) h2
   rw [Array.setIfInBounds_comm _ _ hji]
   exact h3.2.2
theorem Cb.seq{Q':Exit->Act->World->Prop}:∀(l:List Oper) (k:Nat) (listed:Array Bool) (a:Act) (w:World),(∀j,l[j]? =ops[k+j]?)->n<=k->
 Region.seqB md ops l.length k listed=true->wpList P ops Q' l a w->Cb P md ops n Q' S l.length listed a w
 |[],k,listed,a,w,hl,hk,hB,h=>⟨by simpa [Region.seqB] using hB,h⟩
 |o::l,k,listed,a,w,hl,hk,hB,h=>by
  have h0:ops[k]? =some o:=by simpa using (hl 0).symm
  simp only [List.length_cons,Region.seqB,Bool.and_eq_true,decide_eq_true_eq]at hB
  refine⟨fun h1=>(by rw [hB.1]at h1;cases h1),fun i hi=>?_⟩
  rw [hB.1]at hi
  have hik:i=k:=by simpa using hi
  subst hik
  have hw:wpOp P ops Q' i (wpList P ops Q' l) a w:=by unfold wpOp;simp only [h0];exact h
  exact wpOp_mono (fun a' w' h'=>⟨fun h=>absurd h (by omega),Cb.seq l (i+1) _ a' w' (fun j=>by have:=hl (j+1);simpa [Nat.add_assoc,Nat.add_comm 1 j] using this) (by omega) hB.2 h'⟩) hw
def HL(P:Program)(N:Nat)(ops:Array Oper)(n:Nat)(Q:Exit->Act->World->Prop)(w0:World)(f:Nat)(listed:Array Bool)(K:KL)(w:World):Prop:=
 HeadInv .any ops n listed->AD w0 w->∀a,Kn N K a->Cb P .any ops n Q (fun w'=>AD w0 w') f listed a w
def noPan(Q:Exit->Act->World->Prop):Exit->Act->World->Prop
 | .panic _,_,_=>False
 |e,a,w=>Q e a w
def EI(ops:Array Oper)(n:Nat):Bool:=Region.noSelect ops&&Nat.ble n ops.size&&(Nat.beq n ops.size||(Region.sinkB .any ops n&&Region.chainB .any ops n&&Nat.blt n ops.size))
theorem EI.spec(h:EI ops n=true):Region.noSelect ops=true∧n<=ops.size∧(n=ops.size∨(Region.sinkB .any ops n=true∧Region.chainB .any ops n=true∧n<ops.size)):=by
 unfold EI at h
 simp only [Bool.and_eq_true,Bool.or_eq_true]at h
 refine⟨h.1.1,Nat.le_of_ble_eq_true h.1.2,?_⟩
 rcases h.2 with h|h
 ·exact .inl (Nat.eq_of_beq_eq_true h)
 ·refine .inr ⟨h.1.1,h.1.2,?_⟩
  have h2:=h.2;simp [Nat.blt]at h2;omega
variable {K:KL} {w w0:World} {f:Nat} {listed:Array Bool}
theorem HL.yld{o:Oper}{v:Value}(i:Nat)(hh:EI ops n=true)(hi:ops[i]? =some o)(hc:(Nat.blt i n&&Region.free .any ops listed i&&(Region.ready .any ops listed).contains i)=true)(hg:o.guard=none)(hd:Cy N o.dst=true)
 (h:Ec P N K o w0 v) (k:HL P N ops n (noPan Q) w0 f (listed.setIfInBounds i true) (BT K o.dst v) w):HL P N ops n (noPan Q) w0 (f+1) listed K w:=by
 intro inv hx a hK
 obtain⟨hs,hn,ht⟩:=EI.spec hh
 simp only [Bool.and_eq_true]at hc
 have hin:i<n:=by have h2:=hc.1.1;simp [Nat.blt]at h2;omega
 have hr:i∈Region.ready .any ops listed:=by simpa using hc.2
 refine Cb.first hi hin hn (Region.noSelect_spec hs) ht (fun c a w h=>h.elim) f listed a w inv (Region.free_spec hi hc.1.2) hr ?_ hx (k (inv.set hr hin) hx _ (hK.put (Cy.h hd)))
 exact .inl ⟨by simp [Region.wanted,hg],fun w' hw'=>h a hK w' hw'⟩
theorem HL.eff{o:Oper}{R:Value->World->Prop}(i:Nat)(hi:ops[i]? =some o)(hin:Nat.blt i n=true)(hr:Region.ready .any ops listed=[i])(hg:o.guard=none)(hd:Cy N o.dst=true)
 (h:MG P N K o w R) (k:∀v w',R v w'->AD w0 w'∧HL P N ops n (noPan Q) w0 f (listed.setIfInBounds i true) (BT K o.dst v) w'):HL P N ops n (noPan Q) w0 (f+1) listed K w:=by
 intro inv hx a hK
 have hin':i<n:=by have h2:=hin;simp [Nat.blt]at h2;omega
 have hri:i∈Region.ready .any ops listed:=by rw [hr];simp
 refine⟨fun h0=>(by rw [h0]at hr;cases hr),fun j hj=>?_⟩
 rw [hr]at hj
 have hji:j=i:=by simpa using hj
 subst hji
 unfold wpOp
 simp only [hi]
 rw [if_pos (by simp [Region.wanted,hg])]
 refine .inl (h a hK _ _ fun u w' hR=>?_)
 obtain⟨h1,h2⟩:=k u w' hR
 exact⟨fun _=>h1,h2 (inv.set hri hin') h1 _ (hK.put (Cy.h hd))⟩
theorem HL.shrink(h:HL P N ops n Q w f listed K w):HL P N ops n Q w0 f listed K w:=by
 intro inv hx a hK
 exact Cb.mono (fun w2 h2=>AD.trans hx h2) _ _ _ _ (h inv (AD.refl w) a hK)
theorem HL.tail{l:List Oper}(hops:ops=l.toArray)(hseq:Region.seqB .any ops (l.drop n).length n listed=true)(hf:f=(l.drop n).length)(k:TL P N ops (noPan Q) (l.drop n) K w):HL P N ops n (noPan Q) w0 f listed K w:=by
 intro inv hx a hK
 rw [hf]
 exact Cb.seq (l.drop n) n listed a w (fun j=>by rw [hops,List.getElem?_drop];simp) (Nat.le_refl n) hseq (k a hK)
theorem HL.done(hr:Region.ready .any ops listed=[])(h:NX N Q .normal K w):HL P N ops n (noPan Q) w0 f listed K w:=by
 intro inv hx a hK
 cases f with
 |zero=>exact⟨hr,h a hK⟩
 |succ f=>exact⟨fun _=>h a hK,by rw [hr];simp⟩
theorem WC.held{id:Nat}{l:List Oper}(n:Nat)(hm:P.follows .mixedOrders=true)
 (h:∀w',AD w w'->HL P N l.toArray n (noPan Q) w' l.length (Array.replicate l.length false) K w'):WC P N (.region id l.toArray true) Q K w:=by
 intro a hK
 have inv0:HeadInv .any l.toArray n (Array.replicate l.length false):=
  ⟨by simp,fun j oj _ hl=>(by rw [getD_replicate_false]at hl;cases hl),fun t _ ht=>getD_in (by simpa using ht) (getD_replicate_false _ _)⟩
 refine Code.wp_mono ?_ (wp_region_any hm (Cb.any _ _ _ _ (h w.drew (AD.drew w) (by simpa using inv0) (AD.refl _) a hK)))
 intro e a w hq
 cases e<;>first|exact hq|exact hq.elim
theorem TL.noPan{l:List Oper}(h:NX N Q .normal K w):TL P N ops (noPan Q) [] K w:=fun a hK=>h a hK
end
/-! ## More operations -/
section
variable {P:Program} {N:Nat} {α:Type} {c:Cd α} {w:World} {S:Nat -> Prop} {xs:List α} {v:Value} {o:Oper} {K:KL}
theorem AY{x a}(ho:o.op= .nilCheck x)(hx:CL K x=some (.pointer (some a))):Ec P N K o w (.pointer (some a)):=by
 intro a hK w' _
 simp [execOp,ho,hK.ev hx]
def RJ{α:Type}(xs:List α)(lo hi:Int):Option (List α):=if 0<=lo∧lo<=hi∧hi<=xs.length then some ((xs.take hi.toNat).drop lo.toNat)else none
theorem Oz{k:IntKind}{i:Int}{y:Nat}{code:BoundsCode}{w:World}(h0:0<=i)(h1:i<=y):(Instr.sliceBound (.int k i) y code).run P w= .ok i.toNat w:=by
 simp [Instr.sliceBound,asIntOf,h0,h1]
theorem XS{e:TypeId}{a:Option Addr}{cap:Nat}{lo hi:Int}(h1:xs.length<=cap∧(a=none->cap=0))(h3:cap<=9223372036854775807)
 (h4:0<xs.length->∃b off,a=some ⟨b,off,none⟩∧S b∧∀i x,xs[i]? =some x->∃us,c.rep w S x us∧AR w b (off+i*c.n) us)
 (g0:0<=lo) (g1:lo<=hi) (g2:hi<=xs.length):
 AK c w S ((xs.take hi.toNat).drop lo.toNat) (.slice (if cap=lo.toNat then a else a.map (·.add (lo.toNat*c.n))) (hi.toNat-lo.toNat) (cap-lo.toNat)):=by
 have hl:((xs.take hi.toNat).drop lo.toNat).length=hi.toNat-lo.toNat:=by simp;omega
 refine⟨_,_,by rw [hl],⟨by rw [hl];omega,fun h=>?_⟩,by omega,fun hpos=>?_⟩
 ·split at h
  ·omega
  ·have:a=none:=by cases a<;>simp_all
   have:=h1.2 this;omega
 ·rw [hl]at hpos
  obtain⟨b,off,rfl,hb,h5⟩:=h4 (by omega)
  rw [if_neg (by omega)]
  refine⟨b,off+lo.toNat*c.n,by simp [DU],hb,fun i x hx=>?_⟩
  rw [List.getElem?_drop,List.getElem?_take]at hx
  split at hx
  ·obtain⟨us,h6,h7⟩:=h5 _ _ hx
   refine⟨us,h6,?_⟩
   have e1:off+lo.toNat*c.n+i*c.n=off+(lo.toNat+i)*c.n:=by rw [Nat.add_mul];omega
   rw [e1];exact h7
  ·cases hx
theorem NN{t x hi e k2 m2 zs}(ho:o.op= .slice t x none (some hi) none)(hu:P.underlying t=some (.slice e))(hc:Ar P e=some c.n)(hx:CL K x=some v)(h2:CL K hi=some (.int k2 m2))
 (hs:AK c w S xs v) (hz:RJ xs 0 m2=some zs):YE P N K o w (fun u=>AK c w S zs u):=by
 obtain⟨a,cap,rfl,g1,g3,g4⟩:=hs
 unfold RJ at hz
 split at hz
 ·rename_i hb
  injection hz with hz;subst hz
  obtain⟨i,hi2,hsz⟩:=Option.map_eq_some_iff.1 hc
  refine⟨_,fun a' hK w' he=>?_,XS (e:=e) g1 g3 g4 hb.1 hb.2.1 hb.2.2⟩
  have e1:(Instr.sliceBound (.int k2 m2) cap .sliceAcap).run P w'= .ok m2.toNat w':=Oz (by omega) (by omega)
  simp [execOp,ho,hK.ev hx,hK.ev h2,Instr.sliceAt,Instr.slice,run_underlying hu,Instr.sliceBounds,e1,sizeOf,typeInfo,hi2,hsz]
 ·cases hz
def Pt(s:ByteArray)(i:Int):Option Int:=if 0<=i then(s[i.toNat]?).map fun b=>(b.toNat:Int)else none
theorem FI{t x i s k m b}(ho:o.op= .index t x i)(hu:P.underlying t=some .string)(hx:CL K x=some (.string s))(hi:CL K i=some (.int k m))(hb:Pt s m=some b):Ec P N K o w (.int .u8 b):=by
 intro a hK w' _
 unfold Pt at hb
 split at hb
 ·rename_i h0
  obtain⟨q,h1,rfl⟩:=Option.map_eq_some_iff.1 hb
  simp [execOp,ho,hK.ev hx,hK.ev hi,Instr.index,asIntOf,run_underlying hu,h0,h1]
 ·cases hb
end
/-! ## Slices of the call's own whose elements lead into memory -/
abbrev SX(B hi:Nat)(v:Value):Nat->Prop:=fun k=>B<=k∧k<hi∧v.ownBlock≠some k
section
variable {α:Type} {c:Cd α} {w w':World} {B hi:Nat} {e:TypeId} {xs zs:List α} {v v':Value}
theorem AA.extN(h:AA c w B (SX B hi v) e xs v)(he:AD w w')(hle:hi<=w.heap.size):AA c w' B (SX B hi v) e xs v:=
 h.keep (fun g hg=>he.block g (h.blk g hg).2) (fun _ h=>h) (fun k h=>he.block k (by have:=h.2.1;omega))
theorem AA.updN{b:Nat}(h:AA c w B (SX B hi v) e xs v)(hu:El b w w')(hne:∀g,v.ownBlock=some g->g≠b)(hb:b<B∨hi<=b:=by omega):AA c w' B (SX B hi v) e xs v:=
 h.keep (fun g hg=>hu.block g (hne g hg)) (fun _ h=>h) (fun k h=>hu.block k (by have:=h.1;have:=h.2.1;omega))
theorem AA.wideN{hi':Nat}(h:AA c w B (SX B hi v) e xs v)(hle:hi<=hi':=by omega):AA c w B (SX B hi' v) e xs v:=
 h.keep (fun _ _=>rfl) (fun k h=>⟨h.1,by have:=h.2.1;omega,h.2.2⟩) (fun _ _=>rfl)
theorem AA.slN{lo hi':Nat}(h:AA c w B (SX B hi v) e xs v)(h1:lo<=B:=by omega)(h2:w.heap.size<=hi':=by omega)(h3:hi<=hi':=by omega):AK c w (Iv lo hi') xs v:=
 h.sl (fun k h=>⟨by have:=h.1;omega,by have:=h.2.1;omega⟩) (fun k h4 h5=>⟨by omega,by omega⟩)
theorem BE.below{lo:Nat}(h:BE w w' v v')(hb:∀g,v.ownBlock=some g->lo<=g):Below lo w w'∨w.heap.size<lo:=by
 by_cases hl:lo<=w.heap.size
 ·exact .inl ⟨h.1.os,h.1.tape,h.1.output,h.1.size,fun k hk=>h.1.block k (by omega) (fun e=>by have:=hb k e.symm;omega)⟩
 ·exact .inr (by omega)
theorem BE.low{lo:Nat}(h:BE w w' v v')(hb:∀g,v.ownBlock=some g->lo<=g)(hl:lo<=w.heap.size):Below lo w w':=by
 rcases h.below hb with h|h
 ·exact h
 ·omega
theorem BE.box{b:Nat}{us:List Value}{t:TypeId}(h:BE w w' v v')(hb:Ae w b us t)(hne:∀g,v.ownBlock=some g->g≠b):Ae w' b us t:=by
 unfold Ae;rw [h.1.block b hb.lt (fun e=>hne b e.symm rfl)];exact hb
theorem BE.slr{lo hi:Nat}(h:BE w w' v v'){ys:List α}{u:Value}(hs:AK c w (Iv lo hi) ys u)(hne:∀g,v.ownBlock=some g->g<lo∨hi<=g)(hle:hi<=w.heap.size:=by omega):AK c w' (Iv lo hi) ys u:=
 hs.mono (fun _ h=>h) (fun k hk=>h.1.block k (by have:=hk.2;omega) (fun e=>by have:=hne k e.symm;have:=hk.1;have:=hk.2;omega))
theorem BE.bd{S:Nat->Prop}(h:BE w w' v v')(ho:AA c w' B S e zs v'){lo hi:Nat}(hb:∀g,v.ownBlock=some g->lo<=g∧g<hi)(hl:lo<=w.heap.size)(hh:hi<=w'.heap.size):∀g,v'.ownBlock=some g->lo<=g∧g<w'.heap.size:=fun g hg=>by
 have h1:=(ho.blk g hg).2
 rcases h.2 g hg with h2|h2
 ·exact⟨(hb g h2).1,h1⟩
 ·exact⟨by omega,h1⟩
end
section
variable {P:Program} {N:Nat} {α:Type} {c:Cd α} {w:World} {B:Nat} {e:TypeId} {xs ys zs:List α} {v:Value} {o:Oper} {K:KL}
theorem Ay[DO c]{t x y u zc sz by'}{S2:Nat->Prop}(ho:o.op= .call { callee:=.builtin .append,args:=#[x,y],argTypes:=#[t,t] })(hu:P.underlying t=some (.slice e))(hi:DT P e=some (zc,sz,by'))(hsz:sz=c.n)(hzc:zc.length=sz)
 (hpos:Nat.blt 0 c.n=true) (hx:CL K x=some v) (hy:CL K y=some u) (hs:AA c w B (Iv 0 0) e xs v) (hb:B<=w.heap.size) (hr:AK c w S2 ys u) (ha:Dm xs ys by'=some zs):
 MG P N K o w (fun v' w'=>AA c w' B (Iv 0 0) e zs v'∧BE w w' v v'):=
 UA (S':=Iv 0 0) ho hu hi hsz hzc hpos hx hy hs hb hr ha (fun _ h=>h) (fun _ _ h=>DO.any h) (fun k h=>absurd h.2 (Nat.not_lt_zero k))
end
end Go.Eng
namespace Go.Eng
open Go Go.RowKit
section
variable {α β:Type} {c:Cd α} {d:Cd β} {w w':World} {B hi:Nat} {e e2:TypeId} {xs zs:List α} {ys:List β} {v v' u:Value}
theorem BE.ownF[DO d](h:BE w w' v v')(ho:AA d w B (Iv 0 0) e2 ys u)(hne:∀g q,v.ownBlock=some g->u.ownBlock=some q->g≠q):AA d w' B (Iv 0 0) e2 ys u:=
 ho.keep (fun q hq=>h.1.block q (ho.blk q hq).2 (fun e=>hne q q e.symm hq rfl)) (fun _ h=>h) (fun k h=>absurd h.2 (Nat.not_lt_zero k))
theorem BE.sepP{p:Nat->Prop}(h:BE w w' v v')(h1:∀g,v.ownBlock=some g->p g)(h2:∀g,w.heap.size<=g->p g):∀g,v'.ownBlock=some g->p g:=fun g hg=>(h.2 g hg).elim (h1 g) (h2 g)
theorem BP{g k k2:Nat}{u:Value}(h:u= .slice (some ⟨g,0,none⟩) k k2):∀q,u.ownBlock=some q->g<=q∧q<g+1:=by
 subst h;intro q hq
 have h2:g=q:=Option.some.inj hq
 omega
theorem FX{lo hi:Nat}:∀q,(Value.slice none 0 0).ownBlock=some q->lo<=q∧q<hi:=fun q h=>by cases h
theorem AA.toN{g k k2:Nat}(h:AA c w g (Iv 0 0) e xs u)(hu:u= .slice (some ⟨g,0,none⟩) k k2):AA c w g (SX g (g+1) u) e xs u:=
 h.keep (fun _ _=>rfl) (fun k h=>absurd h.2 (Nat.not_lt_zero k)) (fun _ _=>rfl)
end
section
variable {P:Program} {N:Nat} {α:Type} {c:Cd α} {w:World} {B:Nat} {S:Nat -> Prop} {e:TypeId} {xs:List α} {v:Value} {o:Oper} {K:KL}
theorem BO{t x y b off u cur e}(ho:o.op= .store t x y)(hx:CL K x=some (.pointer (some ⟨b,off,none⟩)))(hy:CL K y=some u)(hb:Ae w b cur e)(hn:Ar P t=some 1)(hcl:u.cells= #[u])(h1:u.oneCell'=true)
 (hfit:Nat.ble (off+1) cur.length=true):MG P N K o w (fun _ w'=>El b w w'∧Ae w' b (cur.take off++[u]++cur.drop (off+1)) e):=by
 have:=PU (N:=N) ho hx hy hb (by rw [hcl];exact hn) (by rw [hcl];simp [h1]) (by rw [hcl];exact hfit)
 rw [hcl]at this;exact this
theorem AA.baseN{B' hi:Nat}(h:AA c w B (SX B hi v) e xs v)(hB:B'<=B:=by omega):AA c w B' (SX B' hi v) e xs v:=
 (h.base hB).keep (fun _ _=>rfl) (fun k hk=>⟨by have:=hk.1;omega,hk.2⟩) (fun _ _=>rfl)
end
theorem AC{x:Value}{xs:List Value}(h:x.oneCell'=true)(h2:xs.all Value.oneCell'=true):(x::xs).all Value.oneCell'=true:=by simp [List.all_cons,h,h2]
theorem BH:([]:List Value).all Value.oneCell'=true:=rfl
def GY:Nat->List (List Value)->List (Nat×List Value)
 |_,[]=>[]
 |k,us::uss=>(k,us)::GY (k+1) uss
theorem OV{n len:Nat}:∀(uss:List (List Value)) (k:Nat) (pre post:List Value),pre.length=k*n->post.length=uss.length*n->(∀us∈uss,us.length=n)->len=k+uss.length->
 Jd ((List.range len).map fun k=>(k*n,n)) (pre++post) (GY k uss)=some (pre++BU uss)
 |[],k,pre,post,hp,hq,ha,hl=>by
  have:post=[]:=List.eq_nil_of_length_eq_zero (by simpa using hq)
  subst this;simp [GY,Jd,BU]
 |us::uss,k,pre,post,hp,hq,ha,hl=>by
  have hus:us.length=n:=ha us (List.mem_cons_self ..)
  have hk:((List.range len).map fun k=>(k*n,n))[k]? =some (k*n,n):=by
   have:k<len:=by rw [hl,List.length_cons];omega
   simp [this]
  have hq':post.length=uss.length*n+n:=by rw [hq,List.length_cons,Nat.add_mul];omega
  have e:List.take (k*n) (pre++post)++us++List.drop (k*n+us.length) (pre++post)=(pre++us)++post.drop n:=by
   rw [←hp,List.take_left,List.drop_append,hus,List.drop_eq_nil_of_le (by omega)]
   simp
  have:=OV (len:=len) uss (k+1) (pre++us) (post.drop n) (by rw [List.length_append,hp,hus,Nat.add_mul];omega) (by rw [List.length_drop,hq'];omega) (fun x hx=>ha x (List.mem_cons_of_mem _ hx)) (by rw [hl,List.length_cons];omega)
  have hb:(Nat.beq us.length n&&Nat.ble (k*n+us.length) (pre++post).length)=true:=by
   rw [Bool.and_eq_true]
   exact⟨by rw [hus];exact Nat.beq_refl n,Nat.ble_eq_true_of_le (by rw [List.length_append,hp,hq',hus];omega)⟩
  rw [GY,Jd]
  simp only [hk]
  rw [hb,e,if_pos rfl,this]
  simp [BU]
theorem Pa{n len:Nat}{zc:Array Value}{uss:List (Nat×List Value)}(uls:List (List Value))(h1:uss=GY 0 uls)(h2:uls.all (fun us=>Nat.beq us.length n)=true)(h3:uls.length=len):
 Jd ((List.range len).map fun k=>(k*n,n)) (madeCells zc (len*n)).toList uss=some (BU uls):=by
 subst h1
 have:=OV (n:=n) (len:=len) uls 0 [] (madeCells zc (len*n)).toList (by simp) (by rw [Array.length_toList,size_madeCells,h3]) (fun us hus=>Nat.eq_of_beq_eq_true (List.all_eq_true.1 h2 us hus)) (by omega)
 simpa using this
section
variable {P:Program} {N:Nat} {ops:Array Oper} {Q:Exit -> Act -> World -> Prop} {n:Nat} {K:KL} {w w0:World} {f:Nat} {listed:Array Bool}
def HB(P:Program)(N:Nat)(ops:Array Oper)(n:Nat)(Q:Exit->Act->World->Prop)(w0:World)(f:Nat)(listed:Array Bool)(K:KL)(w:World)(j:Nat):Prop:=
 HeadInv .any ops n listed->AD w0 w->∀a,Kn N K a->wpOp P ops Q j (fun a' w'=>(j<n->AD w0 w')∧Cb P .any ops n Q (fun w'=>AD w0 w') f (listed.setIfInBounds j true) a' w') a w
theorem HL.many{js:List Nat}(hr:Region.ready .any ops listed=js)(hne:js.isEmpty=false)(h:∀j∈js,HB P N ops n Q w0 f listed K w j):HL P N ops n Q w0 (f+1) listed K w:=by
 intro inv hx a hK
 refine⟨fun h0=>(by rw [hr]at h0;subst h0;cases hne),fun j hj=>?_⟩
 rw [hr]at hj
 exact h j hj inv hx a hK
theorem HB.eff{o:Oper}{R:Value->World->Prop}(i:Nat)(hi:ops[i]? =some o)(hin:Nat.blt i n=true)(hr:(Region.ready .any ops listed).contains i=true)(hg:o.guard=none)(hd:Cy N o.dst=true)
 (h:MG P N K o w R) (k:∀v w',R v w'->AD w0 w'∧HL P N ops n (noPan Q) w0 f (listed.setIfInBounds i true) (BT K o.dst v) w'):HB P N ops n (noPan Q) w0 f listed K w i:=by
 intro inv hx a hK
 have hin':i<n:=by have h2:=hin;simp [Nat.blt]at h2;omega
 have hri:i∈Region.ready .any ops listed:=by simpa using hr
 unfold wpOp
 simp only [hi]
 rw [if_pos (by simp [Region.wanted,hg])]
 refine .inl (h a hK _ _ fun u w' hR=>?_)
 obtain⟨h1,h2⟩:=k u w' hR
 exact⟨fun _=>h1,h2 (inv.set hri hin') h1 _ (hK.put (Cy.h hd))⟩
theorem Bp{p:Nat->Prop}{i j:Nat}(h1:p i)(h2:p j):∀k∈[i,j],p k:=by
 intro k hk
 rcases List.mem_cons.1 hk with rfl|hk
 ·exact h1
 ·obtain rfl:=List.mem_singleton.1 hk;exact h2
theorem NE{p:Nat->Prop}{i j l:Nat}(h1:p i)(h2:p j)(h3:p l):∀k∈[i,j,l],p k:=by
 intro k hk
 rcases List.mem_cons.1 hk with rfl|hk
 ·exact h1
 ·exact Bp h2 h3 k hk
theorem WC.join{c:Code}(R:Act->World->Prop)(h1:WC P N c (fun e a w=>e= .normal∧R a w) K w)(h2:∀a w',R a w'->Q .normal a w'):WC P N c Q K w:=by
 intro a hK
 refine Code.wp_mono ?_ (h1 a hK)
 rintro e a w ⟨rfl,h⟩
 exact h2 a w h
end
def OQ{α:Type}(c:Cd α)(w:World)(S:Nat->Prop):List α->List (List Value)->Prop
 |[],[]=>True
 |x::xs,us::uss=>c.rep w S x us∧OQ c w S xs uss
 |_,_=>False
theorem OQ.get{α:Type}{c:Cd α}{w:World}{S:Nat->Prop}:∀{xs:List α} {uss:List (List Value)},OQ c w S xs uss->(∀us∈uss,us.length=c.n)∧xs.length=uss.length∧∀(i:Nat) (x:α),xs[i]? =some x->∃us:List Value,uss[i]? =some us∧c.rep w S x us
 |[],[],_=>⟨by simp,rfl,fun i x h=>by simp at h⟩
 |x::xs,us::uss,⟨h1,h2⟩=>by
  obtain⟨a,b,k⟩:=OQ.get h2
  refine⟨fun q hq=>?_,by simp [b],fun i y hy=>?_⟩
  ·rcases List.mem_cons.1 hq with rfl|hq
   ·exact c.len h1
   ·exact a q hq
  ·cases i with
   |zero=>simp at hy;subst hy;exact⟨us,rfl,h1⟩
   |succ i=>simpa using k i y (by simpa using hy)
theorem OQ.elem{α:Type}{c:Cd α}{w:World}{S:Nat->Prop}{xs:List α}{uss:List (List Value)}(h:OQ c w S xs uss):∀i x,xs[i]? =some x->c.rep w S x (Ax (BU uss) c.n i):=by
 intro i x hx
 obtain⟨a,b,k⟩:=OQ.get h
 obtain⟨us,h1,h2⟩:=k i x hx
 rw [LO a h1];exact h2
theorem UY{α:Type}{c:Cd α}{w:World}{S:Nat->Prop}{xs:List α}{uss:List (List Value)}{out:List Value}(h:OQ c w S xs uss)(ho:out=BU uss):∀i x,xs[i]? =some x->c.rep w S x (Ax out c.n i):=by
 subst ho;exact h.elem
end Go.Eng
namespace Go.Eng
open Go Go.RowKit Go.ChangeShapes Go.WideShapes Go.ChangeAt
/-! ## Arguments, as they are read -/
def Rd{α:Type}(P:Program)(t:TypeId)(c:Cd α)(R:α->Prop):Prop:=
 ∀(H:Type) (enc:TypeId×Value->H) (w:World) (base:Nat) (spare:Nat->Bool) (held:Bool) (fuel:Nat) (cs:List Value) (x:DataW H×List MemPlace),
  DataW.trod enc P w base spare held fuel t cs=some x->w.noneFrozen x.2->∃y,c.rep w (Iv 0 w.heap.size) y cs∧R y
section
variable {P:Program} {t e:TypeId} {α β:Type} {c:Cd α} {d:Cd β} {R:α -> Prop} {R':β -> Prop}
theorem Rd.weaken(h:Rd P t c R){Q:α->Prop}(hq:∀x,R x->Q x):Rd P t c Q:=fun H enc w b sp hd f cs x hx hz=>by
 obtain⟨y,h1,h2⟩:=h H enc w b sp hd f cs x hx hz
 exact⟨y,h1,hq y h2⟩
theorem Rd.int{k:IntKind}(hu:P.underlying t=some (.int k)):Rd P t (AH k) (fun i=>k.min<=i∧i<=k.max):=fun H enc w b sp hd f cs x hx _=>by
 obtain⟨n,rfl,rfl,hw⟩:=DataW.trod_int hu hx
 simp only [Lit.wf,Bool.and_eq_true,decide_eq_true_eq]at hw
 exact⟨n,rfl,hw⟩
theorem Rd.bool(hu:P.underlying t=some .bool):Rd P t Aq (fun _=>True):=fun H enc w b sp hd f cs x hx _=>by
 obtain⟨n,rfl,rfl⟩:=DataW.trod_bool hu hx
 exact⟨n,rfl,trivial⟩
theorem Rd.str(hu:P.underlying t=some .string):Rd P t At (fun s=>s.size<=maxLen):=fun H enc w b sp hd f cs x hx _=>by
 obtain⟨s,rfl,rfl,h⟩:=DataW.trod_string hu hx
 exact⟨s,rfl,h⟩
theorem Ux{p:Nat->α->Prop}:∀(n:Nat),(∀i,i<n->∃y,p i y)->∃ys:List α,ys.length=n∧∀i y,ys[i]? =some y->p i y
 |0,_=>⟨[],rfl,fun i y h=>by simp at h⟩
 |n+1,h=>by
  obtain⟨ys,hl,hy⟩:=Ux n (fun i hi=>h i (by omega))
  obtain⟨y,hn⟩:=h n (by omega)
  refine⟨ys++[y],by simp [hl],fun i z hz=>?_⟩
  by_cases hi:i<n
  ·rw [List.getElem?_append_left (by omega)]at hz;exact hy i z hz
  ·rw [List.getElem?_append_right (by omega),hl]at hz
   by_cases h0:i-n=0
   ·rw [h0]at hz
    simp at hz
    obtain rfl:i=n:=by omega
    subst hz;exact hn
   ·have:=(List.getElem?_eq_some_iff.1 hz).1
    simp at this;omega
theorem Rd.slice(hu:P.underlying t=some (.slice e))(hc:P.cellsOf e=c.n)(hp:Nat.blt 0 c.n=true)(h:Rd P e c R):Rd P t (DI c) (fun xs=>xs.length<=9223372036854775807∧∀x∈xs,R x):=fun H enc w b sp hd f cs x hx hz=>by
 have hp:0<c.n:=by have h:=hp;simp [Nat.blt]at h;omega
 rcases Go.Deep.open_slice hu hx with ⟨rfl,rfl⟩|⟨a,len,cap,m,n,D,Pl,rfl,hb,hl,hm,hmm,rfl,hel⟩
 ·exact⟨[],⟨_,rfl,AK.nil _ _ _⟩,by simp,by simp⟩
 have hle:len<=m:=by rw [hmm];split<;>omega
 obtain⟨ys,hyl,hy⟩:=Ux (α:=α) (p:=fun i y=>∃cs',w.cells? b (a.add (i*P.cellsOf e)) (P.cellsOf e)=some cs'∧c.rep w (Iv 0 w.heap.size) y cs'∧R y) len (fun i hi=>by
  obtain⟨cs',h1,h2⟩:=hel i (by omega)
  obtain⟨y,h3,h4⟩:=h H enc w b sp hd n cs' _ h2 (fun b' o' hm=>hz b' o' (List.mem_append_right _ (List.mem_flatMap.2 ⟨i,List.mem_range.2 (by omega),hm⟩)))
  exact⟨y,cs',h1,h3,h4⟩)
 refine⟨ys,⟨_,rfl,some a,cap,by rw [hyl],⟨by omega,fun h=>by cases h⟩,by unfold maxLen at hm;omega,fun hpos=>?_⟩,by unfold maxLen at hm;omega,fun x hx=>?_⟩
 ·rw [hc]at hy
  have h0:∃cs',w.cells? b (a.add (0*c.n)) c.n=some cs':=by
   obtain⟨y,hy0⟩:∃y,ys[0]? =some y:=⟨_,List.getElem?_eq_getElem hpos⟩
   obtain⟨cs',h1,_⟩:=hy 0 y hy0
   exact⟨cs',h1⟩
  obtain⟨cs',h1⟩:=h0
  obtain⟨_,h2,h3⟩:=World.cells?_some h1
  have h4:=h3 0 hp
  have e0:(a.add (0*c.n)).add 0=a:=by simp [Addr.add]
  rw [e0,List.getElem?_eq_getElem (by omega)]at h4
  obtain⟨blk,off,spot⟩:=a
  have hblk:blk<w.heap.size∧spot=none:=by
   unfold World.cell? at h4
   split at h4
   ·rename_i h5
    refine⟨(Array.getElem?_eq_some_iff.1 h5).1,?_⟩
    cases spot with
    |none=>rfl
    |some s=>simp at h4
   ·cases h4
  obtain⟨hblk,rfl⟩:=hblk
  refine⟨blk,off,rfl,⟨Nat.zero_le _,hblk⟩,fun i x hx=>?_⟩
  obtain⟨cs',h1,h2,_⟩:=hy i x hx
  refine⟨cs',h2,fun j u hu=>?_⟩
  obtain⟨_,h3,h4⟩:=World.cells?_some h1
  have hj:=(List.getElem?_eq_some_iff.1 hu).1
  have:=h4 j (by omega)
  rw [DU,DU]at this
  refine⟨by rw [this,hu],hz _ _ (List.mem_append_left _ ?_)⟩
  unfold MemPlace.row
  refine List.mem_map.2 ⟨i*c.n+j,List.mem_range.2 ?_,by simp [Nat.add_assoc]⟩
  have hi2:i<m:=by have:=(List.getElem?_eq_some_iff.1 hx).1;omega
  have:(i+1)*c.n<=m*c.n:=Nat.mul_le_mul_right _ hi2
  rw [Nat.add_mul]at this
  rw [hc];omega
 ·obtain⟨i,hi⟩:=List.getElem?_of_mem hx
  obtain⟨_,_,_,h3⟩:=hy i x hi
  exact h3
def FZ{α:Type}(P:Program)(fs:List Field)(off:Nat)(c:Cd α)(R:α->Prop):Prop:=
 ∀(H:Type) (enc:TypeId×Value->H) (w:World) (base:Nat) (spare:Nat->Bool) (held:Bool) (fuel:Nat) (cs:List Value),
  (∀f∈fs,∃x,DataW.trod enc P w base spare held fuel f.type ((cs.drop f.offset).take (P.cellsOf f.type))=some x∧w.noneFrozen x.2)->∃y,c.rep w (Iv 0 w.heap.size) y ((cs.drop off).take c.n)∧R y
theorem FZ.one{f:Field}{off:Nat}(h:Rd P f.type c R)(ho:f.offset=off)(hc:P.cellsOf f.type=c.n):FZ P [f] off c R:=fun H enc w b sp hd fu cs hx=>by
 obtain⟨x,hx,hz⟩:=hx f (List.mem_singleton.2 rfl)
 obtain⟨y,h1,h2⟩:=h H enc w b sp hd fu _ x hx hz
 rw [ho,hc]at h1
 exact⟨y,h1,h2⟩
theorem FZ.cons{f:Field}{fs:List Field}{off:Nat}(h:Rd P f.type c R)(ho:f.offset=off)(hc:P.cellsOf f.type=c.n)(h2:FZ P fs (off+c.n) d R'):FZ P (f::fs) off (BG c d) (fun x=>R x.1∧R' x.2):=fun H enc w b sp hd fu cs hx=>by
 obtain⟨x,hx1,hz1⟩:=hx f (List.mem_cons_self ..)
 obtain⟨y,h3,h4⟩:=h H enc w b sp hd fu _ x hx1 hz1
 obtain⟨z,h5,h6⟩:=h2 H enc w b sp hd fu cs (fun g hg=>hx g (List.mem_cons_of_mem _ hg))
 rw [ho,hc]at h3
 refine⟨(y,z),⟨_,_,?_,h3,h5⟩,h4,h6⟩
 show(cs.drop off).take (c.n+d.n)=_
 rw [List.take_add,List.drop_drop]
theorem Rd.map(h:Rd P t c R)(f:β->α)(g:α->β)(hfg:∀y,f (g y)=y):Rd P t (Cl f c) (fun x=>R (f x)):=fun H enc w b sp hd fu cs x hx hz=>by
 obtain⟨y,h1,h2⟩:=h H enc w b sp hd fu cs x hx hz
 exact⟨g y,by show c.rep w _ (f (g y)) cs;rw [hfg];exact h1,by show R (f (g y));rw [hfg];exact h2⟩
theorem Rd.struct{fs:List Field}(hu:P.underlying t=some (.struct fs.toArray))(hn:P.cellsOf t=c.n)(h:FZ P fs 0 c R):Rd P t c R:=fun H enc w b sp hd fu cs x hx hz=>by
 obtain⟨xs,n,rfl,rfl,hl,hlen,hf⟩:=DataW.trod_struct hu hx
 obtain⟨y,h1,h2⟩:=h H enc w b sp hd n cs (fun f hf'=>by
  obtain⟨i,hi⟩:=List.getElem?_of_mem hf'
  have:=hf i f (by simpa using hi)
  rw [this]
  have hi':=(List.getElem?_eq_some_iff.1 hi).1
  have hix:i<xs.length:=by rw [hlen];simpa using hi'
  exact⟨_,List.getElem?_eq_getElem hix,fun b' o' hm=>hz b' o' (List.mem_flatMap.2 ⟨_,List.getElem_mem hix,hm⟩)⟩)
 rw [List.drop_zero,List.take_of_length_le (by omega)]at h1
 exact⟨y,h1,h2⟩
end
/-! ## A statement whose answer is true -/
section
variable {H:Type} {enc:TypeId × Value -> H} {P:Program}
theorem LR(hl:laidOutB P=true){W W':World}(hb:Below W.heap.size W W'):∀{ts:List TypeId} {vs:List Value} {ds:List (DataW H)} {ps:List MemPlace},(∀t∈ts,P.readableRec t=true∧t<P.types.size)->
 DataW.TrodAll enc P W 0 (fun _=>true) true ts vs ds ps->(∀x∈ps,x.block<W.heap.size)->DataW.TrodAll enc P W' 0 (fun b=>decide (b<W.heap.size)) true ts vs ds ps
 |[],[],[],ps,_,h,_=>h
 |t::ts,v::vs,d::ds,ps,hr,h,hlt=>by
  obtain⟨p,q,h1,h2,rfl⟩:=h
  obtain⟨h3,h4⟩:=hr t (List.mem_cons_self ..)
  exact⟨p,q,Below.trod hl h3 h4 h1 hb (fun x hx=>hlt x (List.mem_append_left _ hx)),LR hl hb (fun t ht=>hr t (List.mem_cons_of_mem _ ht)) h2 (fun x hx=>hlt x (List.mem_append_right _ hx)),rfl⟩
theorem NK{w:World}{base:Nat}{sp:Nat->Bool}{hd:Bool}:∀{ts:List TypeId} {vs:List Value} {ds:List (DataW H)} {ps:List MemPlace},DataW.TrodAll enc P w base sp hd ts vs ds ps->ds.length=ts.length
 |[],[],[],_,_=>rfl
 |t::ts,v::vs,d::ds,ps,⟨p,q,_,h,_⟩=>by simp [NK h]
end
end Go.Eng
namespace Go.Eng
open Go Go.RowKit
/-! ## Plain laws on what the walks compute -/
theorem Ac{x:Int}(h1:-9223372036854775808<=x)(h2:x<=9223372036854775807):IntKind.wrap IntKind.i64 x=x:=by
 simp [IntKind.wrap,IntKind.bits,IntKind.signed]
 split<;>omega
theorem EA{α:Type}(xs:List α)(i:Nat):AG xs (i:Int)=xs[i]?:=by simp [AG]
theorem Fu{α:Type}{xs:List α}{i:Int}(h0:0<=i)(h1:i<xs.length):∃x,AG xs i=some x∧x∈xs:=by
 obtain⟨n,rfl⟩:=Int.eq_ofNat_of_zero_le h0
 have hn:n<xs.length:=by omega
 exact⟨xs[n],by rw [EA,List.getElem?_eq_getElem hn],List.getElem_mem hn⟩
theorem DX{n b:Nat}(h:n<=1048576)(hb:b<=268435456):ME (n:Int) b=some n:=by
 unfold ME
 have h2:n*b<=1048576*268435456:=Nat.mul_le_mul h hb
 have h3:(n:Int)*(b:Int)<=281474976710656:=by
  have:((n*b:Nat):Int)<=281474976710656:=by omega
  simpa using this
 rw [if_pos ⟨by omega,h3,by omega⟩]
 simp
def SO{α β R:Type}(a:List α)(f:α->Option β)(k:Int->List β->Option R):Nat->Int->List β->Option R
 |0=>fun _ _=>none
 |m+1=>fun i l=>bif decide (i<(a.length:Int))then(Option.bind (AG a i) fun x=>Option.bind (f x) fun r=>Option.bind (AG l i) fun _=>SO a f k m (IntKind.wrap IntKind.i64 (i+1)) (l.set i.toNat r))else k i l
theorem Ht{α β R:Type}(a:List α)(f:α->Option β)(k:Int->List β->Option R)(m:Nat)(i:Int)(l:List β):SO a f k (m+1) i l=bif decide (i<(a.length:Int))then(Option.bind (AG a i) fun x=>Option.bind (f x) fun r=>Option.bind (AG l i) fun _=>SO a f k m (IntKind.wrap IntKind.i64 (i+1)) (l.set i.toNat r))else k i l:=rfl
theorem Xf{α β R:Type}{a:List α}{f:α->Option β}{g:α->β}{k:Int->List β->Option R}(hf:∀x∈a,f x=some (g x))(ha:a.length<=1048576):∀(m i:Nat) (l:List β),i<=a.length->a.length-i<m->l.length=a.length->l.take i=(a.map g).take i->
 SO a f k m (i:Int) l=k (a.length:Int) (a.map g)
 |0,i,l,_,h,_,_=>by omega
 |m+1,i,l,hi,hm,hl,ht=>by
  rw [Ht]
  by_cases h:i<a.length
  ·have hd:decide ((i:Int)<(a.length:Int))=true:=decide_eq_true (by omega)
   have hx:a[i]? =some a[i]:=List.getElem?_eq_getElem h
   have hy:l[i]? =some (l[i]'(by omega)):=List.getElem?_eq_getElem _
   rw [hd,cond_true,EA,EA,hx,Option.bind_some,hf _ (List.getElem_mem h),Option.bind_some,hy,Option.bind_some,Ac (by omega) (by omega)]
   have:=Xf (k:=k) hf ha m (i+1) (l.set i (g a[i])) (by omega) (by omega) (by simpa using hl) (by
    apply List.ext_getElem?
    intro j
    rw [List.getElem?_take,List.getElem?_take,List.getElem?_set]
    by_cases hj:j<i+1
    ·rw [if_pos hj,if_pos hj]
     by_cases hij:i=j
     ·subst hij
      rw [if_pos rfl,if_pos (by omega),List.getElem?_map,hx];rfl
     ·rw [if_neg hij]
      have e:=congrArg (fun q:List β=>q[j]?) ht
      simp only [List.getElem?_take]at e
      rwa [if_pos (by omega),if_pos (by omega)]at e
    ·rw [if_neg hj,if_neg hj])
   simpa using this
  ·have hd:decide ((i:Int)<(a.length:Int))=false:=decide_eq_false (by omega)
   have he:i=a.length:=by omega
   rw [hd,cond_false]
   subst he
   have:l=a.map g:=by
    rw [List.take_of_length_le (by omega),List.take_of_length_le (by simp)]at ht
    exact ht
   rw [this]
def Ss{α β R:Type}(a:List α)(b:List β)(f:α->β->Option Bool)(no:Option R)(k:Int->Option R):Nat->Int->Option R
 |0=>fun _=>none
 |m+1=>fun i=>bif decide (i<(a.length:Int))then(Option.bind (AG a i) fun x=>Option.bind (AG b i) fun y=>Option.bind (f x y) fun r=>bif (!r)then no else Ss a b f no k m (IntKind.wrap IntKind.i64 (i+1)))else k i
theorem Hk{α β R:Type}(a:List α)(b:List β)(f:α->β->Option Bool)(no:Option R)(k:Int->Option R)(m:Nat)(i:Int):Ss a b f no k (m+1) i=bif decide (i<(a.length:Int))then(Option.bind (AG a i) fun x=>Option.bind (AG b i) fun y=>Option.bind (f x y) fun r=>bif (!r)then no else Ss a b f no k m (IntKind.wrap IntKind.i64 (i+1)))else k i:=rfl
theorem Dw{α R:Type}{a:List α}{f:α->α->Option Bool}{no:Option R}{k:Int->Option R}(hf:∀x∈a,f x x=some true)(ha:a.length<=1048576):∀(m i:Nat),i<=a.length->a.length-i<m->Ss a a f no k m (i:Int)=k (a.length:Int)
 |0,i,_,h=>by omega
 |m+1,i,hi,hm=>by
  rw [Hk]
  by_cases h:i<a.length
  ·have hd:decide ((i:Int)<(a.length:Int))=true:=decide_eq_true (by omega)
   have hx:a[i]? =some a[i]:=List.getElem?_eq_getElem h
   rw [hd,cond_true,EA,hx,Option.bind_some,Option.bind_some,hf _ (List.getElem_mem h),Option.bind_some,Bool.not_true,cond_false,Ac (by omega) (by omega)]
   have:=Dw (no:=no) (k:=k) hf ha m (i+1) (by omega) (by omega)
   simpa using this
  ·have hd:decide ((i:Int)<(a.length:Int))=false:=decide_eq_false (by omega)
   have he:i=a.length:=by omega
   rw [hd,cond_false,he]
theorem GM{α:Type}{a:List α}{f:α->Option α}{z:α}{n:Nat}(hf:∀x∈a,f x=some x)(ha:a.length<=1048576)(hn:1048577<=n):SO a f (fun _ l=>some l) n 0 (List.replicate a.length z)=some a:=by
 have:=Xf (f:=f) (g:=id) (k:=fun(_:Int) (l:List α)=>some l) hf ha n 0 (List.replicate a.length z) (by omega) (by omega) (by simp) (by simp)
 simpa using this
theorem uZ{cs:Array Value}{l:List Value}(h:cs.toList=l):cs=l.toArray:=by rw [←h]
end Go.Eng
namespace Go.Eng
open Go Go.RowKit
/-! ## Calls that write what they are handed -/
def pB(b:Nat):Nat->Prop:=fun k=>k=b
def pO(v:Value):Nat->Prop:=fun k=>v.ownBlock=some k
def zH(p q:Nat->Prop):Nat->Prop:=fun k=>p k∨q k
theorem Aw{b:Nat}{Q:Nat->Prop}(h:Q b:=by omega):∀k,pB b k->Q k:=fun k e=>by have e:k=b:=e;rw [e];exact h
theorem Hb{v:Value}{Q:Nat->Prop}(h:∀g,v.ownBlock=some g->Q g):∀k,pO v k->Q k:=h
theorem CP{p q:Nat->Prop}{Q:Nat->Prop}(h1:∀k,p k->Q k)(h2:∀k,q k->Q k):∀k,zH p q k->Q k:=fun k h=>h.elim (h1 k) (h2 k)
structure CW(p:Nat->Prop)(w w':World):Prop where
 os:w'.os=w.os
 tape:w'.tape=w.tape
 output:w'.output=w.output
 size:w.heap.size<=w'.heap.size
 block:∀k,k<w.heap.size->¬p k->w'.heap[k]? =w.heap[k]?
section
variable {p q:Nat -> Prop} {w a c:World}
theorem CW.refl(p:Nat->Prop)(w:World):CW p w w:=⟨rfl,rfl,rfl,Nat.le_refl _,fun _ _ _=>rfl⟩
theorem CW.ext(h:CW p w a)(he:AD a c):CW p w c:=
 ⟨he.os.trans h.os,he.tape.trans h.tape,he.output.trans h.output,Nat.le_trans h.size he.size,fun k hk hp=>(he.block k (Nat.lt_of_lt_of_le hk h.size)).trans (h.block k hk hp)⟩
theorem CW.upd{b:Nat}(h:CW p w a)(hu:El b a c)(hb:p b∨w.heap.size<=b):CW p w c:=
 ⟨hu.os.trans h.os,hu.tape.trans h.tape,hu.output.trans h.output,by rw [hu.size];exact h.size,fun k hk hp=>(hu.block k (fun e=>by subst e;exact hb.elim hp (fun h=>by omega))).trans (h.block k hk hp)⟩
theorem CW.grow{v v':Value}(h:CW p w a)(hg:BE a c v v')(hb:∀g,v.ownBlock=some g->p g∨w.heap.size<=g):CW p w c:=
 ⟨hg.1.os.trans h.os,hg.1.tape.trans h.tape,hg.1.output.trans h.output,Nat.le_trans h.size hg.1.size,fun k hk hp=>(hg.1.block k (Nat.lt_of_lt_of_le hk h.size) (fun e=>(hb k e.symm).elim hp (fun h=>by omega))).trans (h.block k hk hp)⟩
theorem CW.but(h:CW p w a)(hq:CW q a c)(hb:∀k,q k->p k∨w.heap.size<=k):CW p w c:=
 ⟨hq.os.trans h.os,hq.tape.trans h.tape,hq.output.trans h.output,Nat.le_trans h.size hq.size,fun k hk hp=>(hq.block k (Nat.lt_of_lt_of_le hk h.size) (fun e=>(hb k e).elim hp (fun h=>by omega))).trans (h.block k hk hp)⟩
theorem CW.below{lo:Nat}(h:CW p w a)(hp:∀k,p k->lo<=k)(hl:lo<=w.heap.size):Below lo w a:=
 ⟨h.os,h.tape,h.output,h.size,fun k hk=>h.block k (by omega) (fun e=>by have:=hp k e;omega)⟩
theorem Ae.but{b:Nat}{us:List Value}{t:TypeId}(hb:Ae w b us t)(h:CW p w a)(hne:∀k,p k->k≠b):Ae a b us t:=by
 have h1:=h.block b hb.lt (fun e=>hne b e rfl)
 unfold Ae at hb ⊢;rw [h1,hb]
theorem AK.but{α:Type}{d:Cd α}{lo hi:Nat}{xs:List α}{v:Value}(hs:AK d w (Iv lo hi) xs v)(h:CW p w a)(hne:∀k,p k->k<lo∨hi<=k)(hle:hi<=w.heap.size):AK d a (Iv lo hi) xs v:=
 hs.mono (fun _ h=>h) (fun k hk=>h.block k (by have:=hk.2;omega) (fun e=>by have:=hne k e;have:=hk.1;have:=hk.2;omega))
theorem AA.butF{α:Type}{d:Cd α}[DO d]{B:Nat}{e:TypeId}{xs:List α}{v:Value}(ho:AA d w B (Iv 0 0) e xs v)(h:CW p w a)(hne:∀k,p k->∀g,v.ownBlock=some g->k≠g):AA d a B (Iv 0 0) e xs v:=
 ho.keep (fun g hg=>h.block g (ho.blk g hg).2 (fun e=>hne g e g hg rfl)) (fun _ h=>h) (fun k h=>absurd h.2 (Nat.not_lt_zero k))
end
section
variable {P:Program} {N:Nat} {o:Oper} {K:KL} {w:World}
theorem MO{i:Nat}{v:Value}{us:List Value}{ps:List (Nat×Value)}{uss:List (Nat×List Value)}(h:v.cells.toList=us)(t:ps.map (fun p=>(p.1,p.2.cells.toList))=uss):((i,v)::ps).map (fun p=>(p.1,p.2.cells.toList))=(i,us)::uss:=by
 rw [List.map_cons,t,h]
theorem AK.cl{α:Type}{c:Cd α}{w:World}{S:Nat->Prop}{xs:List α}{v:Value}(h:AK c w S xs v):v.cells.toList=[v]:=by rw [AK.cells h]
/-! ## Functions as values, shifts, bits -/
theorem EE{f first captured cs}(ho:o.op= .makeFunc (.func f) first captured)(h1:Nf K first.toList=some [])(h2:Nf K captured.toList=some cs):Ec P N K o w (.func (.func f) #[] cs.toArray):=by
 intro a hK w' _
 have e1:first.map a.eval= #[]:=by
  have:=hK.evs h1
  apply Array.ext'
  simpa using this
 have e2:captured.map a.eval=cs.toArray:=by
  have:=hK.evs h2
  apply Array.ext'
  simpa using this
 simp [execOp,ho,Instr.makeFunc,e1,e2]
theorem EL{x f args tys vs cs}{R:Value->World->Prop}(ho:o.op= .call { callee:=.value x,args:=args,argTypes:=tys })(hf:AZ P f=true)(hx:CL K x=some (.func (.func f) #[] cs))
 (ha:Nf K args.toList=some vs) (hc:Calls P f (vs++cs.toList).toArray w (Di R)):MG P N K o w R:=by
 intro a hK Kt Q hk
 have he:args.map a.eval=vs.toArray:=by
  have:=hK.evs ha
  apply Array.ext'
  simpa using this
 have hr:(execOp a.eval o).run P w= .ok (.enter f (vs++cs.toList).toArray) w:=by
  have e:vs.toArray++cs=(vs++cs.toList).toArray:=by simp
  simp [execOp,ho,resolve,hK.ev hx,Deferred.ofValue,invoke,he,e,OE hf]
 unfold Oper.wp
 rw [hr]
 exact hc.mono fun e w' ⟨v,he,hR⟩=>by subst he;exact hk _ _ hR
def Rv(k:IntKind)(m n:Int):Int:=m.fdiv (2^(min n.toNat k.bits))
def TW(k:IntKind)(m n:Int):Int:=k.wrap (m*2^(min n.toNat k.bits))
theorem jM{t x y u k k2 m n}(ho:o.op= .binOp .shr t x y u)(hx:CL K x=some (.int k m))(hy:CL K y=some (.int k2 n))(h0:¬n<0):Ec P N K o w (.int k (Rv k m n)):=by
 intro a hK w' _
 simp [execOp,ho,hK.ev hx,hK.ev hy,eqGuard,binOp,Op.shift,h0,Rv]
theorem UX{t x y u k k2 m n}(ho:o.op= .binOp .shl t x y u)(hx:CL K x=some (.int k m))(hy:CL K y=some (.int k2 n))(h0:¬n<0):Ec P N K o w (.int k (TW k m n)):=by
 intro a hK w' _
 simp [execOp,ho,hK.ev hx,hK.ev hy,eqGuard,binOp,Op.shift,h0,TW]
theorem yQ{b:Int}{α:Type}{y:Option α}{r:α}(h:(bif decide (b<0)then none else y)=some r):¬b<0∧y=some r:=by
 by_cases hb:b<0
 ·simp [hb]at h
 ·exact⟨hb,by simpa [hb] using h⟩
end
end Go.Eng
namespace Go.Eng
open Go Go.RowKit
section
variable {P:Program} {N:Nat} {o:Oper} {K:KL} {w:World}
theorem RC{t x y u e}(ho:o.op= .binOp .eql t x y u)(hu:P.underlying t=some (.slice e))(hx:CL K x=some (.slice none 0 0))(hy:CL K y=some (.slice none 0 0)):Ec P N K o w (.bool true):=by
 intro a hK w' _
 simp [execOp,ho,hK.ev hx,hK.ev hy,eqGuard,binOp,run_equal_slice_nil,hu]
theorem Sm{t x y u e p n cap}(ho:o.op= .binOp .eql t x y u)(hu:P.underlying t=some (.slice e))(hx:CL K x=some (.slice (some p) n cap))(hy:CL K y=some (.slice none 0 0)):Ec P N K o w (.bool false):=by
 intro a hK w' _
 simp [execOp,ho,hK.ev hx,hK.ev hy,eqGuard,binOp,run_equal_slice_nil,hu]
theorem AK.nil_or{α:Type}{c:Cd α}{S:Nat->Prop}{xs:List α}{v:Value}(h:AK c w S xs v):(v= .slice none 0 0∧xs=[])∨∃p n cap,v= .slice (some p) n cap:=by
 obtain⟨a,cap,rfl,⟨h2,h3⟩,_,_⟩:=h
 cases a with
 |none=>
  have:=h3 rfl
  have hx:xs=[]:=List.eq_nil_of_length_eq_zero (by omega)
  subst hx;subst this;exact .inl ⟨rfl,rfl⟩
 |some p=>exact .inr ⟨p,_,cap,rfl⟩
variable {Q:Exit -> Act -> World -> Prop}
theorem WC.cond_t{c:Operand}{x y:Code}(hc:CL K c=some (.bool true))(ht:WC P N x Q K w):WC P N (.cond c x y) Q K w:=WC.cond hc (fun _=>ht) (fun h=>absurd h (by decide))
theorem WC.cond_f{c:Operand}{x y:Code}(hc:CL K c=some (.bool false))(hf:WC P N y Q K w):WC P N (.cond c x y) Q K w:=WC.cond hc (fun h=>absurd h (by decide)) (fun _=>hf)
/-! ## A drawn region that writes what was there: the blocks of p -/
def YA(P:Program)(N:Nat)(K:KL)(o:Oper)(Ψ:Value->Prop):Prop:=∃v,(∀w,Ec P N K o w v)∧Ψ v
theorem OS{α:Type}{c:Cd α}{xs:List α}{y:α}{t x i e v k m S}(ho:o.op= .indexAddr t x i)(hu:P.underlying t=some (.slice e))(hc:Ar P e=some c.n)(hx:CL K x=some v)
 (hi2:CL K i=some (.int k m)) (hs:AK c w S xs v) (hg:AG xs m=some y):
 YA P N K o (fun u=>∃b off us,u= .pointer (some ⟨b,off,none⟩)∧S b∧c.rep w S y us∧AR w b off us):=by
 obtain⟨a,cap,rfl,h2,h3,h4⟩:=hs
 obtain⟨g0,g1,g2⟩:=EQ hg
 obtain⟨b,off,rfl,h5,h7⟩:=h4 (by omega)
 obtain⟨us,h8,h9⟩:=h7 _ _ g2
 exact⟨_,fun w=>Eh ho hu hc hx hi2 g0 g1,b,_,us,rfl,h5,h8,h9⟩
theorem GW{α:Type}{c:Cd α}{xs:List α}{v:Value}{B:Nat}{S:Nat->Prop}{e:TypeId}{y:α}{t x i k m}(ho:o.op= .indexAddr t x i)(hu:P.underlying t=some (.slice e))(hc:Ar P e=some c.n)(hx:CL K x=some v)
 (hi2:CL K i=some (.int k m)) (hs:AA c w B S e xs v) (hg:AG xs m=some y):
 YA P N K o (fun u=>∃g us,u= .pointer (some ⟨g,0+m.toNat*c.n,none⟩)∧v.ownBlock=some g∧c.rep w S y us∧AR w g (0+m.toNat*c.n) us):=by
 obtain⟨u,h1,g,us,rfl,h2,h3,h4⟩:=MJ (N:=N) ho hu hc hx hi2 hs hg
 obtain⟨g0,g1,g2⟩:=EQ hg
 obtain⟨cs,⟨hl,⟨rfl,_⟩|⟨g',cap,cur,rfl,_⟩⟩,_⟩:=hs
 ·cases h2
 ·have h2:g'=g:=Option.some.inj h2
  subst h2
  exact⟨_,fun w=>by have:=Eh (N:=N) (w:=w) ho hu hc hx hi2 g0 g1;simpa [DU] using this,g',us,rfl,rfl,h3,h4⟩
end
section
variable {P:Program} {N:Nat} {ops:Array Oper} {Q:Exit -> Act -> World -> Prop} {n:Nat} {K:KL} {w w0:World} {f:Nat} {listed:Array Bool} {p:Nat -> Prop}
def JG(P:Program)(N:Nat)(ops:Array Oper)(n:Nat)(Q:Exit->Act->World->Prop)(p:Nat->Prop)(w0:World)(f:Nat)(listed:Array Bool)(K:KL)(w:World):Prop:=
 HeadInv .any ops n listed->CW p w0 w->∀a,Kn N K a->Cb P .any ops n Q (fun w'=>CW p w0 w') f listed a w
theorem JG.yld{o:Oper}{v:Value}(i:Nat)(hh:EI ops n=true)(hi:ops[i]? =some o)(hc:(Nat.blt i n&&Region.free .any ops listed i&&(Region.ready .any ops listed).contains i)=true)(hg:o.guard=none)(hd:Cy N o.dst=true)
 (h:∀wx,CW p w0 wx->Ec P N K o wx v) (k:JG P N ops n (noPan Q) p w0 f (listed.setIfInBounds i true) (BT K o.dst v) w):JG P N ops n (noPan Q) p w0 (f+1) listed K w:=by
 intro inv hx a hK
 obtain⟨hs,hn,ht⟩:=EI.spec hh
 simp only [Bool.and_eq_true]at hc
 have hin:i<n:=by have h2:=hc.1.1;simp [Nat.blt]at h2;omega
 have hr:i∈Region.ready .any ops listed:=by simpa using hc.2
 refine Cb.first hi hin hn (Region.noSelect_spec hs) ht (fun c a w h=>h.elim) f listed a w inv (Region.free_spec hi hc.1.2) hr ?_ hx (k (inv.set hr hin) hx _ (hK.put (Cy.h hd)))
 exact .inl ⟨by simp [Region.wanted,hg],fun w' hw'=>h w' hw' a hK w' (AD.refl w')⟩
theorem JG.ya{o:Oper}{Ψ:Value->Prop}(i:Nat)(hh:EI ops n=true)(hi:ops[i]? =some o)(hc:(Nat.blt i n&&Region.free .any ops listed i&&(Region.ready .any ops listed).contains i)=true)(hg:o.guard=none)(hd:Cy N o.dst=true)
 (h:YA P N K o Ψ) (k:∀v,Ψ v->JG P N ops n (noPan Q) p w0 f (listed.setIfInBounds i true) (BT K o.dst v) w):JG P N ops n (noPan Q) p w0 (f+1) listed K w:=by
 obtain⟨v,h1,h2⟩:=h;exact JG.yld i hh hi hc hg hd (fun wx _=>h1 wx) (k v h2)
theorem JG.eff{o:Oper}{R:Value->World->Prop}(i:Nat)(hi:ops[i]? =some o)(hin:Nat.blt i n=true)(hr:Region.ready .any ops listed=[i])(hg:o.guard=none)(hd:Cy N o.dst=true)
 (h:MG P N K o w R) (k:∀v w',R v w'->CW p w0 w'∧JG P N ops n (noPan Q) p w0 f (listed.setIfInBounds i true) (BT K o.dst v) w'):JG P N ops n (noPan Q) p w0 (f+1) listed K w:=by
 intro inv hx a hK
 have hin':i<n:=by have h2:=hin;simp [Nat.blt]at h2;omega
 have hri:i∈Region.ready .any ops listed:=by rw [hr];simp
 refine⟨fun h0=>(by rw [h0]at hr;cases hr),fun j hj=>?_⟩
 rw [hr]at hj
 have hji:j=i:=by simpa using hj
 subst hji
 unfold wpOp
 simp only [hi]
 rw [if_pos (by simp [Region.wanted,hg])]
 refine .inl (h a hK _ _ fun u w' hR=>?_)
 obtain⟨h1,h2⟩:=k u w' hR
 exact⟨fun _=>h1,h2 (inv.set hri hin') h1 _ (hK.put (Cy.h hd))⟩
theorem JG.tail{l:List Oper}(hops:ops=l.toArray)(hseq:Region.seqB .any ops (l.drop n).length n listed=true)(hf:f=(l.drop n).length)(k:TL P N ops (noPan Q) (l.drop n) K w):JG P N ops n (noPan Q) p w0 f listed K w:=by
 intro inv hx a hK
 rw [hf]
 exact Cb.seq (l.drop n) n listed a w (fun j=>by rw [hops,List.getElem?_drop];simp) (Nat.le_refl n) hseq (k a hK)
theorem JG.done(hr:Region.ready .any ops listed=[])(h:NX N Q .normal K w):JG P N ops n (noPan Q) p w0 f listed K w:=by
 intro inv hx a hK
 cases f with
 |zero=>exact⟨hr,h a hK⟩
 |succ f=>exact⟨fun _=>h a hK,by rw [hr];simp⟩
theorem WC.heldG{id:Nat}{l:List Oper}(n:Nat)(hm:P.follows .mixedOrders=true)
 (h:∀w',AD w w'->JG P N l.toArray n (noPan Q) p w' l.length (Array.replicate l.length false) K w'):WC P N (.region id l.toArray true) Q K w:=by
 intro a hK
 have inv0:HeadInv .any l.toArray n (Array.replicate l.length false):=
  ⟨by simp,fun j oj _ hl=>(by rw [getD_replicate_false]at hl;cases hl),fun t _ ht=>getD_in (by simpa using ht) (getD_replicate_false _ _)⟩
 refine Code.wp_mono ?_ (wp_region_any hm (Cb.any _ _ _ _ (h w.drew (AD.drew w) (by simpa using inv0) (CW.refl p _) a hK)))
 intro e a w hq
 cases e<;>first|exact hq|exact hq.elim
theorem AR.but{b off:Nat}{us:List Value}(h:AR w b off us)(hb:CW p w w0)(hne:∀k,p k->k≠b)(hlt:b<w.heap.size):AR w0 b off us:=h.block (hb.block b hlt (fun e=>hne b e rfl))
end
/-! ## What is left out within what is left out -/
section
variable {P:Program} {N:Nat} {ops:Array Oper} {Q:Exit -> Act -> World -> Prop} {K:KL} {w:World} {o:Oper} {rest:List Oper} {Qa:Act -> Prop}
end
end Go.Eng
namespace Go.Eng
open Go Go.RowKit
/-! ## Plain laws on the statements' marks -/
theorem Qu{i N:Nat}(h:i<N):decide ((i:Int)<(N:Int))=true:=decide_eq_true (by omega)
theorem Sc(N:Nat):decide ((N:Int)<(N:Int))=false:=decide_eq_false (by omega)
theorem jH{i:Nat}(h:i<4611686018427387904):IntKind.wrap IntKind.i64 ((i:Int)+1)=((i+1:Nat):Int):=by rw [Ac (by omega) (by omega)];simp
theorem Fw{α:Type}{xs:List α}{i:Nat}(h:i<xs.length):AG xs (i:Int)=some xs[i]:=by rw [EA];exact List.getElem?_eq_getElem h
end Go.Eng
namespace Go.Eng
open Go Go.RowKit
/-! ## Arrays in a box, texts put together, bytes as a text -/
section
variable {P:Program} {N:Nat} {K:KL} {o:Oper} {w:World}
theorem MQ{t x i e b off k m sz len}(ho:o.op= .indexAddr t x i)(hu:P.underlying t=some (.array len e))(hc:Ar P e=some sz)(hx:CL K x=some (.pointer (some ⟨b,off,none⟩)))
 (hi:CL K i=some (.int k m)) (h0:0<=m∧m<(len:Int)):Ec P N K o w (.pointer (some ⟨b,off+m.toNat*sz,none⟩)):=by
 intro a hK w' _
 obtain⟨i,hi2,hs⟩:=Option.map_eq_some_iff.1 hc
 simp [execOp,ho,hK.ev hx,hK.ev hi,Instr.indexAt,Instr.sureAddr,asIntOf,run_underlying hu,h0.1,h0.2,sizeOf,typeInfo,hi2,hs,DU]
def Ng(P:Program)(t f:Nat):Option (Nat×Nat):=match P.underlying t with
 |some (.struct fs)=>fs[f]?.map fun q=>(q.type,q.offset)
 |_=>none
theorem Vm{t f ft off:Nat}(h:Ng P t f=some (ft,off)):∃fs q,P.underlying t=some (.struct fs)∧fs[f]? =some q∧q.type=ft∧q.offset=off:=by
 unfold Ng at h
 split at h
 ·rename_i fs hu
  obtain⟨q,h1,h2⟩:=Option.map_eq_some_iff.1 h
  simp only [Prod.mk.injEq]at h2
  exact⟨fs,q,hu,h1,h2.1,h2.2⟩
 ·cases h
theorem OJ{t x f us u ft off}(ho:o.op= .field t x f)(hf:Ng P t f=some (ft,off))(ha:Bj P ft=some false)(hx:CL K x=some (.agg (List.toArray us)))(hu:us[off]? =some u):Ec P N K o w u:=by
 intro a hK w' _
 obtain⟨fs,q,h1,h2,rfl,rfl⟩:=Vm hf
 simp [execOp,ho,hK.ev hx,Instr.field,run_underlying h1,h2,asAgg,part,Hl ha,hu,Sem.run_bind]
end
/-! ## Plain laws on sizes and marks -/
theorem eY{α:Type}{xs:List α}{L:Nat->Int->Int->Option Int}{f:α->Int->Option Int}{SM:α->Prop}(hx:xs.length<=1048576)
 (hf:∀x∈xs,∀left,0<=left->left<=1048576->∃r,f x left=some r∧r<=left∧(0<=r->SM x))
 (hs:∀(m i:Nat) (left:Int) (hi:i<xs.length),i<4611686018427387904->L (m+1) left (i:Int)=Option.bind (f xs[i] left) fun r=>bif decide (r<0)then some (-1)else L m r ((i+1:Nat):Int))
 (he:∀(m:Nat) (left:Int),L (m+1) left (xs.length:Int)=some left):
 ∀(m i:Nat) (left:Int),i<=xs.length->xs.length-i<m->0<=left->left<=1048576->(∀j (h:j<xs.length),j<i->SM xs[j])->∃r,L m left (i:Int)=some r∧r<=left∧(0<=r->∀x∈xs,SM x)
 |0,i,_,_,hm,_,_,_=>by omega
 |m+1,i,left,hi,hm,h0,h1,hI=>by
  by_cases h:i<xs.length
  ·obtain⟨r,e,hr,hsm⟩:=hf _ (List.getElem_mem h) left h0 h1
   rw [hs m i left h (by omega),e,Option.bind_some]
   by_cases hn:r<0
   ·rw [decide_eq_true hn];exact⟨-1,rfl,by omega,fun h=>by omega⟩
   ·rw [decide_eq_false hn,cond_false]
    obtain⟨r2,e2,hr2,hs2⟩:=eY hx hf hs he m (i+1) r (by omega) (by omega) (by omega) (by omega) (fun j hj hji=>by
     by_cases q:j=i
     ·subst q;exact hsm (by omega)
     ·exact hI j hj (by omega))
    exact⟨r2,e2,by omega,hs2⟩
  ·obtain rfl:i=xs.length:=by omega
   rw [he]
   exact⟨left,rfl,Int.le_refl _,fun _ x hx=>by
    obtain⟨j,hj⟩:=List.getElem?_of_mem hx
    obtain⟨h1,h2⟩:=List.getElem?_eq_some_iff.1 hj
    rw [←h2];exact hI j h1 h1⟩
theorem Ga:maxLen=9223372036854775807:=by decide
end Go.Eng
namespace Go.Eng
open Go Go.RowKit Go.ChangeShapes Go.WideShapes Go.ChangeAt
/-! ## A statement whose answer is true, where package-level variables are laid -/
theorem mR{C:Checked}{os:Os}{f:FuncId}{fn:Func}{s:ChangeSpec}{conds:List PathCond}{H:Type}{enc:TypeId×Value->H}{tb:TypeId}{laid:List (String×DataW Unit)}
 (own:ownKnob C.prog.godebug=none) (started:os.Started) (noInit:C.prog.inits.idxOf? f=none) (hfn:C.prog.funcs[f]? =some fn)
 (witness:∃(w:World) (tape:Tape) (i:Input),w.os=os∧(w.forCall tape i).Shaped C.prog∧i.vars=[]∧Input.okWide C.prog (w.forCall tape i) .any w.heap.size f i∧
  ((s.pre enc C.prog fn conds false (w.forCall tape i).memory i.args∧laidMetH C.prog laid (w.forCall tape i).memory)∧sizedMet enc C.prog fn (OpenSpec.ofChange s) false (w.forCall tape i).memory i.args)∧({}:Assume).holds C.prog (lone (Frame.enter C.prog f i.args .normal) [] (w.forCall tape i)))
 (hl:laidOutB C.prog=true) (hvars:s.vars=[]) (hspec:∀ds:List (DataW H),ds.length=fn.params.toList.length->s.fn H ds={ results:=[.lit (.bool true)],args:=ds })
 (hrt:fn.resultTypes= #[tb]) (hub:C.prog.underlying tb=some .bool) (hpar:∀t∈fn.params.toList,C.prog.readableRec t=true∧t<C.prog.types.size)
 (run:∀(W:World) (base:Nat) (args:Array Value) (ds:List (DataW H)) (p:List MemPlace),
  (∀(j:Nat) t v,fn.params[j]? =some t->args[j]? =some v->Value.okWide C.prog W .any base t v)->
  DataW.TrodAll enc C.prog W 0 (fun _=>true) true fn.params.toList args.toList ds p->W.noneFrozen p->
  Calls C.prog f args W (Di fun u w2=>u= .bool true∧AD W w2)):
 ReturnsInHanded {} C os f .any (fun w args=>(s.pre enc C.prog fn conds false w args∧laidMetH C.prog laid w)∧sizedMet enc C.prog fn (OpenSpec.ofChange s) false w args) (s.post enc C.prog fn false true false false):=by
 refine returnsInHanded_of_change_and (X:=fun w _=>laidMetH C.prog laid w) (fun _ _ _ hh h=>h.of_heap hh) own started noInit hfn witness ?_
 intro W base args ds gs before hval hW _ _ _ _
 have hW':=hW
 obtain⟨p,q,hA,hV,rfl,hz,_⟩:=hW
 rw [hvars]at hV
 obtain⟨rfl,rfl⟩:=trodVars_none hV
 refine(run W base args ds p hval hA (fun b' o' hm=>hz b' o' (List.mem_append_left _ hm))).mono fun e W' ⟨v,he,hv,hB⟩=>?_
 subst hv
 have e1:s.fn H (ds++[])={ results:=[.lit (.bool true)],args:=ds }:=by rw [List.append_nil];exact hspec ds (NK hA)
 refine⟨_,he,ds,[],p++[],[],p,[],hW',?_,?_,?_,hB.frame _,fun h=>by cases h⟩
 ·rw [e1,hrt]
  exact⟨[],[],⟨1,by simp [DataW.trod,Value.cells,hub]⟩,rfl,rfl⟩
 ·rw [e1]
  exact LR hl hB hpar hA (fun x hx=>hW'.lt x (List.mem_append_left _ hx))
 ·rw [e1,hvars];rfl
section
variable {H:Type} {enc:TypeId × Value -> H} {P:Program} {w:World} {base:Nat} {spare:Nat -> Bool} {held:Bool}
theorem sM{vs:List Value}{ds:List (DataW H)}{ps:List MemPlace}(h:DataW.TrodAll enc P w base spare held [] vs ds ps):vs=[]∧ds=[]:=by
 match vs,ds,h with
 |[],[],_=>exact⟨rfl,rfl⟩
theorem pA{t:TypeId}{ts:List TypeId}{vs:List Value}{ds:List (DataW H)}{ps:List MemPlace}(h:DataW.TrodAll enc P w base spare held (t::ts) vs ds ps)(hz:w.noneFrozen ps):
 ∃v vs' d ds' p q,vs=v::vs'∧ds=d::ds'∧DataW.Trod enc P w base spare held t v d p∧w.noneFrozen p∧DataW.TrodAll enc P w base spare held ts vs' ds' q∧w.noneFrozen q:=by
 match vs,ds,h with
 |v::vs',d::ds',⟨p,q,h1,h2,e⟩=>subst e;exact⟨v,vs',d,ds',p,q,rfl,rfl,h1,fun b o hm=>hz b o (List.mem_append_left _ hm),h2,fun b o hm=>hz b o (List.mem_append_right _ hm)⟩
theorem zC{a:Array Value}{l:List Value}(h:a.toList=l):a=l.toArray:=by rw [←h]
end
section
variable {P:Program} {N:Nat} {K:KL} {o:Oper} {w w0:World}
end
end Go.Eng
namespace Go.Eng
open Go Go.RowKit
/-! ## Orders of a drawn region that writes -/
section
variable {P:Program} {N:Nat} {ops:Array Oper} {Q:Exit -> Act -> World -> Prop} {n:Nat} {K:KL} {w w0:World} {f:Nat} {listed:Array Bool} {p:Nat -> Prop}
def HGB(P:Program)(N:Nat)(ops:Array Oper)(n:Nat)(Q:Exit->Act->World->Prop)(p:Nat->Prop)(w0:World)(f:Nat)(listed:Array Bool)(K:KL)(w:World)(j:Nat):Prop:=
 HeadInv .any ops n listed->CW p w0 w->∀a,Kn N K a->wpOp P ops Q j (fun a' w'=>(j<n->CW p w0 w')∧Cb P .any ops n Q (fun w'=>CW p w0 w') f (listed.setIfInBounds j true) a' w') a w
theorem JG.many{js:List Nat}(hr:Region.ready .any ops listed=js)(hne:js.isEmpty=false)(h:∀j∈js,HGB P N ops n Q p w0 f listed K w j):JG P N ops n Q p w0 (f+1) listed K w:=by
 intro inv hx a hK
 refine⟨fun h0=>(by rw [hr]at h0;subst h0;cases hne),fun j hj=>?_⟩
 rw [hr]at hj
 exact h j hj inv hx a hK
theorem HGB.eff{o:Oper}{R:Value->World->Prop}(i:Nat)(hi:ops[i]? =some o)(hin:Nat.blt i n=true)(hr:(Region.ready .any ops listed).contains i=true)(hg:o.guard=none)(hd:Cy N o.dst=true)
 (h:MG P N K o w R) (k:∀v w',R v w'->CW p w0 w'∧JG P N ops n (noPan Q) p w0 f (listed.setIfInBounds i true) (BT K o.dst v) w'):HGB P N ops n (noPan Q) p w0 f listed K w i:=by
 intro inv hx a hK
 have hin':i<n:=by have h2:=hin;simp [Nat.blt]at h2;omega
 have hri:i∈Region.ready .any ops listed:=by simpa using hr
 unfold wpOp
 simp only [hi]
 rw [if_pos (by simp [Region.wanted,hg])]
 refine .inl (h a hK _ _ fun u w' hR=>?_)
 obtain⟨h1,h2⟩:=k u w' hR
 exact⟨fun _=>h1,h2 (inv.set hri hin') h1 _ (hK.put (Cy.h hd))⟩
theorem CW.trans(h:CW p w0 w){w2:World}(h2:CW p w w2):CW p w0 w2:=h.but h2 fun _ hk=>.inl hk
theorem JG.shrink(h:JG P N ops n Q p w f listed K w):JG P N ops n Q p w0 f listed K w:=by
 intro inv hx a hK
 exact Cb.mono (fun w2 h2=>CW.trans hx h2) _ _ _ _ (h inv (CW.refl p w) a hK)
end
end Go.Eng
namespace Go.Eng
open Go Go.RowKit
/-! ## The beginning of an own slice -/
def oK(v:Value)(m:Nat):Value:=match v with
 | .slice a _ cap=>.slice a m cap
 |v=>v
section
variable {P:Program} {N:Nat} {o:Oper} {K:KL} {w:World}
variable {α:Type} {c:Cd α} {B:Nat} {S:Nat -> Prop} {e:TypeId} {xs:List α} {v:Value}
theorem aK{m:Nat}:(oK v m).ownBlock=v.ownBlock:=by
 cases v with
 |slice a n cap=>cases a<;>rfl
 |_=>rfl
theorem AA.cut(h:AA c w B S e xs v){m:Nat}(hm:m<=xs.length):AA c w B S e (xs.take m) (oK v m):=by
 obtain⟨cs,⟨hl,h1⟩,h2⟩:=h
 have hmn:m*c.n<=xs.length*c.n:=Nat.mul_le_mul_right _ hm
 refine⟨cs.take (m*c.n),⟨?_,?_⟩,?_⟩
 ·rw [List.length_take,List.length_take]
  rw [show min m xs.length=m by omega];omega
 ·rw [List.length_take,show min m xs.length=m by omega]
  rcases h1 with ⟨rfl,h0⟩|⟨g,cap,cur,rfl,a1,a2,a3,a4,a5,a6⟩
  ·obtain rfl:m=0:=by omega
   exact .inl ⟨rfl,rfl⟩
  ·refine .inr ⟨g,cap,cur,rfl,a1,a2,by omega,a4,a5,?_⟩
   rw [←a6,List.take_take]
   congr 1;omega
 ·intro i x hx
  have hi:i<m:=by
   have:=(List.getElem?_eq_some_iff.1 hx).1
   rw [List.length_take]at this;omega
  rw [List.getElem?_take_of_lt hi]at hx
  have:=h2 i x hx
  have e1:Ax (cs.take (m*c.n)) c.n i=Ax cs c.n i:=by
   unfold Ax
   have:(i+1)*c.n<=m*c.n:=Nat.mul_le_mul_right _ (by omega)
   rw [Nat.add_mul]at this
   rw [List.drop_take,List.take_take]
   congr 1;omega
  rw [e1];exact this
end
end Go.Eng
namespace Go.Eng
open Go Go.RowKit
/-! ## Steps that ask for no fact, many at once -/
def pK(op:BinOp)(k:IntKind)(m n:Int):Option Value:=match op with
 | .add=>some (.int k (k.wrap (m+n)))
 | .sub=>some (.int k (k.wrap (m-n)))
 | .mul=>some (.int k (k.wrap (m*n)))
 | .quo=>bif n==0 then none else some (.int k (k.wrap (m.tdiv n)))
 | .rem=>bif n==0 then none else some (.int k (m.tmod n))
 | .lss=>some (.bool (decide (m<n)))
 | .leq=>some (.bool (decide (m<=n)))
 | .gtr=>some (.bool (decide (m>n)))
 | .geq=>some (.bool (decide (m>=n)))
 | .eql=>some (.bool (m==n))
 | .neq=>some (.bool (m !=n))
 |_=>none
def yq(K:KL)(p:Op):Option Value:=match p with
 | .move x=>CL K x
 | .assign x=>CL K x
 | .binOp op _ x y _=>match CL K x,CL K y with
  |some (.int k m),some (.int k' n)=>bif decide (k=k')then pK op k m n else none
  |some (.string a),some (.string b)=>match op with
   | .eql=>some (.bool (a.toList==b.toList))
   | .neq=>some (.bool (a.toList !=b.toList))
   |_=>none
  |_,_=>none
 | .unOp u _ x=>match CL K x with
  |some (.bool b)=>match u with
   | .not=>some (.bool (!b))
   |_=>none
  |some (.int k m)=>match u with
   | .neg=>some (.int k (k.wrap (0-m)))
   |_=>none
  |_=>none
 | .extract x i=>match CL K x with
  |some (.tuple vs)=>vs[i]?
  |_=>none
 | .pick c x y=>match CL K c with
  |some (.bool b)=>match b with
   |true=>CL K x
   |false=>CL K y
  |_=>none
 |_=>none
section
variable {P:Program} {N:Nat}
theorem gY{K:KL}{o:Oper}{w:World}{op t x y u k m n v}(ho:o.op= .binOp op t x y u)(hx:CL K x=some (.int k m))(hy:CL K y=some (.int k n))(h:pK op k m n=some v):Ec P N K o w v:=by
 cases op<;>simp only [pK,Option.some.injEq,reduceCtorEq]at h
 case add=>subst h;exact iN ho hx hy
 case sub=>subst h;exact fY ho hx hy
 case mul=>subst h;exact gZ ho hx hy
 case quo=>obtain⟨h1,h2⟩:=PS h;obtain rfl:=Option.some.inj h2;exact QN ho hx hy h1
 case rem=>obtain⟨h1,h2⟩:=PS h;obtain rfl:=Option.some.inj h2;exact QX ho hx hy h1
 case lss=>subst h;exact jF ho hx hy
 case leq=>subst h;exact fF ho hx hy
 case gtr=>subst h;exact gU ho hx hy
 case geq=>subst h;exact iI ho hx hy
 case eql=>subst h;exact fR ho hx hy
 case neq=>subst h;exact fH ho hx hy
theorem Mb{K:KL}{o:Oper}{w:World}{v:Value}(h:yq K o.op=some v):Ec P N K o w v:=by
 generalize ho:o.op=p at h
 cases p<;>simp only [yq,reduceCtorEq]at h
 case move=>exact XM ho h
 case assign=>exact UO ho h
 case binOp=>
  split at h
  ·rename_i k m k' n hx hy
   by_cases hk:k=k'
   ·subst hk;rw [decide_eq_true rfl]at h;exact gY ho hx hy h
   ·rw [decide_eq_false hk]at h;cases h
  ·rename_i a b hx hy
   split at h
   ·obtain rfl:=Option.some.inj h;exact gV ho hx hy
   ·obtain rfl:=Option.some.inj h;exact jG ho hx hy
   ·cases h
  ·cases h
 case unOp=>
  split at h
  ·rename_i b hx
   split at h
   ·obtain rfl:=Option.some.inj h;exact fC ho hx
   ·cases h
  ·rename_i k m hx
   split at h
   ·obtain rfl:=Option.some.inj h;exact fD ho hx
   ·cases h
  ·cases h
 case extract=>
  split at h
  ·rename_i vs hx;exact SG ho hx h
  ·cases h
 case pick=>
  split at h
  ·rename_i b hc
   split at h
   ·exact Tx ho hc rfl h
   ·exact TO ho hc rfl h
  ·cases h
end
inductive Gd where
 |yes|skip|no
def FM(N:Nat)(ops:Array Oper)(K:KL)(o:Oper):Gd:=match Cy N o.dst with
 |false=>.no
 |true=>match o.guard with
  |none=>.yes
  |some (j,want)=>match My ops j with
   |none=>.no
   |some t=>match kl K t with
    |some (.bool b)=>match b with
     |true=>match want with
      |true=>.yes
      |false=>.skip
     |false=>match want with
      |true=>.skip
      |false=>.yes
    |some (.tuple _)=>.skip
    |_=>.no
section
variable {P:Program} {N:Nat} {ops:Array Oper} {Q:Exit -> Act -> World -> Prop} {K:KL} {w:World} {o:Oper} {rest:List Oper} {Qa:Act -> Prop}
theorem KR{g:Gd}(h:FM N ops K o=g)(hg:g≠ .no):Cy N o.dst=true:=by
 subst h
 cases hd:Cy N o.dst with
 |true=>rfl
 |false=>exact absurd (by simp [FM,hd]) hg
theorem Fg(h:FM N ops K o= .yes){a:Act}(hK:Kn N K a):Region.wanted o (yielded ops a.tmps)=true:=by
 unfold FM at h
 split at h
 ·cases h
 split at h
 ·rename_i hg;simp [Region.wanted,hg]
 ·rename_i j want hg
  split at h
  ·cases h
  ·rename_i t hs
   split at h
   ·rename_i b hb
    refine TX hK hg hs hb ?_
    cases b<;>cases want<;>first|rfl|cases h
   ·cases h
   ·cases h
theorem Nr(h:FM N ops K o= .skip){a:Act}(hK:Kn N K a):Region.wanted o (yielded ops a.tmps)=false:=by
 unfold FM at h
 split at h
 ·cases h
 split at h
 ·cases h
 ·rename_i j want hg
  split at h
  ·cases h
  ·rename_i t hs
   split at h
   ·rename_i b hb
    refine WR hK hg hs hb ?_
    cases b<;>cases want<;>first|rfl|cases h
   ·rename_i x hb
    have h1:=hK.get t _ hb
    unfold My at hs
    simp [Region.wanted,hg,yielded,hs,h1]
   ·cases h
theorem Yl{v:Value}(h0:FM N ops K o= .yes)(h:Ec P N K o w v)(k:TL P N ops Q rest (BT K o.dst v) w):TL P N ops Q (o::rest) K w:=by
 intro a hK
 unfold wpList
 rw [if_pos (Fg h0 hK)]
 exact .inl (h.eff a hK _ Q fun u w' ⟨e1,e2⟩=>by subst e1 e2;exact k _ (hK.put (Cy.h (KR h0 (by simp)))))
theorem Ef{R:Value->World->Prop}(h0:FM N ops K o= .yes)(h:MG P N K o w R)(k:∀v w',R v w'->TL P N ops Q rest (BT K o.dst v) w'):TL P N ops Q (o::rest) K w:=by
 intro a hK
 unfold wpList
 rw [if_pos (Fg h0 hK)]
 exact .inl (h a hK _ Q fun u w' hR=>k u w' hR _ (hK.put (Cy.h (KR h0 (by simp)))))
theorem Ye{Ψ:Value->Prop}(h0:FM N ops K o= .yes)(h:YE P N K o w Ψ)(k:∀v,Ψ v->TL P N ops Q rest (BT K o.dst v) w):TL P N ops Q (o::rest) K w:=by
 obtain⟨v,h1,h2⟩:=h;exact Yl h0 h1 (k v h2)
theorem Sk(h0:FM N ops K o= .skip)(k:TL P N ops Q rest (BT K o.dst undef) w):TL P N ops Q (o::rest) K w:=by
 intro a hK
 unfold wpList
 rw [if_neg (by rw [Nr h0 hK];exact Bool.false_ne_true)]
 exact k _ (hK.put (Cy.h (KR h0 (by simp))))
theorem Ql{v:Value}(h0:FM N ops K o= .yes)(h:xO P N K o w v)(k:QL P N ops w Qa rest (BT K o.dst v)):QL P N ops w Qa (o::rest) K:=by
 intro a hK
 unfold wpQuiet
 rw [if_pos (Fg h0 hK)]
 exact⟨v,fun w' hw'=>h a hK w' hw',k _ (hK.put (Cy.h (KR h0 (by simp))))⟩
theorem Qy{v:Value}(h0:FM N ops K o= .yes)(h:Ec P N K o w v)(k:QL P N ops w Qa rest (BT K o.dst v)):QL P N ops w Qa (o::rest) K:=Ql h0 h.qui k
theorem Qe{Ψ:Value->Prop}(h0:FM N ops K o= .yes)(h:YE P N K o w Ψ)(k:∀v,Ψ v->QL P N ops w Qa rest (BT K o.dst v)):QL P N ops w Qa (o::rest) K:=by
 obtain⟨v,h1,h2⟩:=h;exact Qy h0 h1 (k v h2)
theorem Qs(h0:FM N ops K o= .skip)(k:QL P N ops w Qa rest (BT K o.dst undef)):QL P N ops w Qa (o::rest) K:=by
 intro a hK
 unfold wpQuiet
 rw [if_neg (by rw [Nr h0 hK];exact Bool.false_ne_true)]
 exact k _ (hK.put (Cy.h (KR h0 (by simp))))
theorem Kn.know{a:Act}{t:Nat}{u u':Value}(hK:Kn N K a)(h:kl K t=some u)(e:u=u'):Kn N ((t,u')::K) a:=by
 subst e
 refine⟨hK.df,hK.sz,fun s v hs=>hK.get s v ?_⟩
 simp only [kl]at hs
 cases hb:Nat.beq t s with
 |true=>obtain rfl:=Nat.eq_of_beq_eq_true hb;rw [hb]at hs;simp at hs;subst hs;exact h
 |false=>rw [hb]at hs;simpa using hs
theorem Kc(t:Nat){b b':Bool}{l:List Oper}(e:b=b')(h:kl K t=some (.bool b))(k:TL P N ops Q l ((t,.bool b')::K) w):TL P N ops Q l K w:=fun a hK=>k a (hK.know h (by rw [e]))
theorem Kq(t:Nat){b b':Bool}{l:List Oper}(e:b=b')(h:kl K t=some (.bool b))(k:QL P N ops w Qa l ((t,.bool b')::K)):QL P N ops w Qa l K:=fun a hK=>k a (hK.know h (by rw [e]))
theorem yU{c b:Bool}(h:c=true):b=(c&&b):=by subst h;rfl
theorem zE{c b:Bool}(h:c=false):false=(c&&b):=by subst h;rfl
theorem yW{c b:Bool}(h:c=true):true=(c||b):=by subst h;rfl
theorem yS{c b:Bool}(h:c=false):b=(c||b):=by subst h;rfl
end
inductive Frame where
 |seq (c:Code)
 |blk (id:Nat)
 |lp (f:Act->World->Prop)
inductive Md where
 |c (c:Code)
 |o (ops:Array Oper) (l:List Oper)
 |e (e:Exit)
section
variable (P:Program) (N:Nat) (Q0:Exit -> Act -> World -> Prop)
def Ft:List Frame->Exit->Act->World->Prop
 |[]=>Q0
 | .seq c::fs=>Exit.then (fun a w=>c.wp P (Ft fs) a w) (Ft fs)
 | .blk id::fs=>Exit.inBlock id (Ft fs)
 | .lp f::fs=>Exit.then f (Ft fs)
def yV(m:Md)(fs:List Frame)(K:KL)(w:World):Prop:=match m with
 | .c c=>WC P N c (Ft P Q0 fs) K w
 | .o ops l=>TL P N ops (Ft P Q0 fs) l K w
 | .e e=>NX N (Ft P Q0 fs) e K w
def Gw:Nat->Md->List Frame->KL->World->Prop
 |0=>fun m fs K w=>yV P N Q0 m fs K w
 |n+1=>fun m fs K w=>match m with
  | .c c=>match c with
   | .seq x y=>Gw n (.c x) (.seq y::fs) K w
   | .region _ ops false=>Gw n (.o ops ops.toList) fs K w
   | .block id x=>Gw n (.c x) (.blk id::fs) K w
   | .skip=>Gw n (.e .normal) fs K w
   | .exit id=>Gw n (.e (.exit id)) fs K w
   | .ret=>Gw n (.e .ret) fs K w
   |_=>False
  | .o ops l=>match l with
   |[]=>Gw n (.e .normal) fs K w
   |o::rest=>match FM N ops K o with
    | .yes=>match yq K o.op with
     |some v=>Gw n (.o ops rest) fs (BT K o.dst v) w
     |none=>False
    | .skip=>Gw n (.o ops rest) fs (BT K o.dst undef) w
    | .no=>False
  | .e e=>match fs with
   |[]=>False
   | .seq c::fs=>match e with
    | .normal=>Gw n (.c c) fs K w
    | .ret=>Gw n (.e .ret) fs K w
    | .exit id=>Gw n (.e (.exit id)) fs K w
    |_=>False
   | .blk id::fs=>match e with
    | .normal=>Gw n (.e .normal) fs K w
    | .ret=>Gw n (.e .ret) fs K w
    | .exit id'=>bif Nat.beq id' id then Gw n (.e .normal) fs K w else Gw n (.e (.exit id')) fs K w
    |_=>False
   | .lp f::fs=>match e with
    | .normal=>∀a,Kn N K a->f a w
    | .ret=>Gw n (.e .ret) fs K w
    | .exit id=>Gw n (.e (.exit id)) fs K w
    |_=>False
end
section
variable {P:Program} {N:Nat} {Q0:Exit -> Act -> World -> Prop}
theorem Gw.ok:∀(n:Nat) {m:Md} {fs:List Frame} {K:KL} {w:World},Gw P N Q0 n m fs K w->yV P N Q0 m fs K w
 |0,_,_,_,_,h=>h
 |n+1,m,fs,K,w,h=>by
  cases m with
  |c c=>
   cases c with
   |seq x y=>exact WC.seq (Gw.ok n h)
   |region id ops d=>
    cases d with
    |false=>
     have h2:TL P N ops (Ft P Q0 fs) ops.toList K w:=Gw.ok n h
     show WC P N (.region id ops false) (Ft P Q0 fs) K w
     have:ops=ops.toList.toArray:=by simp
     rw [this];rw [this]at h2
     exact WC.region (by simpa using h2)
    |true=>exact h.elim
   |block id x=>exact WC.block (Gw.ok n h)
   |skip=>exact WC.skip' (Gw.ok n h)
   |exit id=>exact WC.exit' (Gw.ok n h)
   |ret=>exact WC.ret' (Gw.ok n h)
   |cond _ _ _=>exact h.elim
   |loop _=>exact h.elim
   |_=>exact h.elim
  |o ops l=>
   cases l with
   |nil=>exact TL.done (Gw.ok n h)
   |cons o rest=>
    simp only [Gw]at h
    split at h
    ·rename_i hg
     split at h
     ·rename_i v hv;exact Yl hg (Mb hv) (Gw.ok n h)
     ·exact h.elim
    ·rename_i hg;exact Sk hg (Gw.ok n h)
    ·exact h.elim
  |e e=>
   cases fs with
   |nil=>exact h.elim
   |cons f fs=>
    cases f with
    |seq c=>
     cases e with
     |normal=>exact NX.seq (Gw.ok n h)
     |ret=>exact NX.then_r (Gw.ok n h)
     |exit id=>exact NX.then_e (Gw.ok n h)
     |_=>exact h.elim
    |blk id=>
     cases e with
     |normal=>exact NX.blk_n (Gw.ok n h)
     |ret=>exact NX.blk_r (Gw.ok n h)
     |exit id'=>
      simp only [Gw]at h
      cases hb:Nat.beq id' id with
      |true=>
       rw [hb]at h
       obtain rfl:=Nat.eq_of_beq_eq_true hb
       exact NX.blk_hit (Gw.ok n h)
      |false=>rw [hb]at h;exact NX.blk_miss hb (Gw.ok n h)
     |_=>exact h.elim
    |lp f=>
     cases e with
     |normal=>exact NX.then_n h
     |ret=>exact NX.then_r (Gw.ok n h)
     |exit id=>exact NX.then_e (Gw.ok n h)
     |_=>exact h.elim
variable {K:KL} {w:World} {fs:List Frame} {ops:Array Oper}
theorem Rc(n:Nat){c:Code}(h:Gw P N Q0 n (.c c) fs K w):WC P N c (Ft P Q0 fs) K w:=Gw.ok (m:=.c c) n h
theorem Ro(n:Nat){l:List Oper}(h:Gw P N Q0 n (.o ops l) fs K w):TL P N ops (Ft P Q0 fs) l K w:=Gw.ok (m:=.o ops l) n h
theorem Re(n:Nat){e:Exit}(h:Gw P N Q0 n (.e e) fs K w):NX N (Ft P Q0 fs) e K w:=Gw.ok (m:=.e e) n h
theorem AB{f:FuncId}{fn:Func}{c:Code}{vs:List Value}{w:World}{R:Ending->World->Prop}
 (hf:P.funcs[f]? =some fn) (hb:fn.body=some c) (hn:fn.ntmps=N) (h:WC P N c (Ft P (bodyPost P fn R) []) (PK 0 vs) w):Calls P f vs.toArray w R:=ZS hf hb hn h
theorem WC.loopD{c:Code}(I:Nat->Act->World->Prop)(m:Nat)(h0:∀a,Kn N K a->I m a w)
 (round:∀m a w,I m a w->c.wp P (Ft P Q0 (.lp (fun a' w'=>∃m',m'<m∧I m' a' w')::fs)) a w):WC P N (.loop c) (Ft P Q0 fs) K w:=WC.loop I m h0 round
theorem TL.cutD{l:List Oper}(k:Nat)(K':KL)(R:World->Prop)(h1:TL P N ops (Ft P Q0 (.lp (fun a' w'=>Kn N K' a'∧R w')::fs)) (l.take k) K w)(h2:∀w',R w'->TL P N ops (Ft P Q0 fs) (l.drop k) K' w'):TL P N ops (Ft P Q0 fs) l K w:=TL.cut k K' R h1 h2
end
section
variable (P:Program) (N:Nat) (ops:Array Oper)
def fL(Q:Exit->Act->World->Prop):Nat->List Oper->KL->World->Prop
 |0=>fun l K w=>TL P N ops Q l K w
 |n+1=>fun l K w=>match l with
  |[]=>False
  |o::rest=>match FM N ops K o with
   | .yes=>match yq K o.op with
    |some v=>fL Q n rest (BT K o.dst v) w
    |none=>False
   | .skip=>fL Q n rest (BT K o.dst undef) w
   | .no=>False
def fG(w:World)(Qa:Act->Prop):Nat->List Oper->KL->Prop
 |0=>fun l K=>QL P N ops w Qa l K
 |n+1=>fun l K=>match l with
  |[]=>False
  |o::rest=>match FM N ops K o with
   | .yes=>match yq K o.op with
    |some v=>fG w Qa n rest (BT K o.dst v)
    |none=>False
   | .skip=>fG w Qa n rest (BT K o.dst undef)
   | .no=>False
end
section
variable {P:Program} {N:Nat} {ops:Array Oper} {Q:Exit -> Act -> World -> Prop} {Qa:Act -> Prop}
theorem Tr:∀(n:Nat) {l:List Oper} {K:KL} {w:World},fL P N ops Q n l K w->TL P N ops Q l K w
 |0,_,_,_,h=>h
 |n+1,l,K,w,h=>by
  cases l with
  |nil=>exact h.elim
  |cons o rest=>
   simp only [fL]at h
   split at h
   ·rename_i hg
    split at h
    ·rename_i v hv;exact Yl hg (Mb hv) (Tr n h)
    ·exact h.elim
   ·rename_i hg;exact Sk hg (Tr n h)
   ·exact h.elim
theorem Qr{w:World}:∀(n:Nat) {l:List Oper} {K:KL},fG P N ops w Qa n l K->QL P N ops w Qa l K
 |0,_,_,h=>h
 |n+1,l,K,h=>by
  cases l with
  |nil=>exact h.elim
  |cons o rest=>
   simp only [fG]at h
   split at h
   ·rename_i hg
    split at h
    ·rename_i v hv;exact Qy hg (Mb hv) (Qr n h)
    ·exact h.elim
   ·rename_i hg;exact Qs hg (Qr n h)
   ·exact h.elim
end
end Go.Eng
namespace Go.Eng
open Go Go.RowKit
/-! ## Operations, read off at once -/
def gG(K:KL)(p:Op):Option (Nat×Nat×Nat×Nat):=match p with
 | .fieldAddr t x f=>match CL K x with
  |some (.pointer (some ⟨b,off,none⟩))=>some (t,f,b,off)
  |_=>none
 |_=>none
def Sx(K:KL)(p:Op):Option (Nat×Nat×Nat):=match p with
 | .load t x=>match CL K x with
  |some (.pointer (some ⟨b,off,none⟩))=>some (t,b,off)
  |_=>none
 |_=>none
def zD(K:KL)(p:Op):Option (Nat×Nat×Nat×Value):=match p with
 | .store t x y=>match CL K x with
  |some (.pointer (some ⟨b,off,none⟩))=>match CL K y with
   |some v=>some (t,b,off,v)
   |none=>none
  |_=>none
 |_=>none
def sO(K:KL)(p:Op):Option (Nat×Value):=match p with
 | .call ⟨.builtin .len,⟨[x]⟩,⟨[t]⟩⟩=>match CL K x with
  |some v=>some (t,v)
  |none=>none
 |_=>none
def Vg(K:KL)(p:Op):Option (Nat×Value×IntKind×Int):=match p with
 | .indexAddr t x i=>match CL K x with
  |some v=>match CL K i with
   |some (.int k m)=>some (t,v,k,m)
   |_=>none
  |none=>none
 |_=>none
def sK(K:KL)(p:Op):Option (Nat×List Value):=match p with
 | .call ⟨.value (.func f),xs,_⟩=>match Nf K xs.toList with
  |some vs=>some (f,vs)
  |none=>none
 |_=>none
section
variable {P:Program} {N:Nat} {K:KL} {o:Oper} {w:World}
theorem lS{t f b off:Nat}(h:gG K o.op=some (t,f,b,off)):∃x,o.op= .fieldAddr t x f∧CL K x=some (.pointer (some ⟨b,off,none⟩)):=by
 unfold gG at h
 split at h
 ·rename_i t' x f' ho
  split at h
  ·rename_i b' off' hx
   simp only [Option.some.injEq,Prod.mk.injEq]at h
   obtain⟨rfl,rfl,rfl,rfl⟩:=h
   exact⟨x,ho,hx⟩
  ·cases h
 ·cases h
theorem Qh{t b off:Nat}(h:Sx K o.op=some (t,b,off)):∃x,o.op= .load t x∧CL K x=some (.pointer (some ⟨b,off,none⟩)):=by
 unfold Sx at h
 split at h
 ·rename_i t' x ho
  split at h
  ·rename_i b' off' hx
   simp only [Option.some.injEq,Prod.mk.injEq]at h
   obtain⟨rfl,rfl,rfl⟩:=h
   exact⟨x,ho,hx⟩
  ·cases h
 ·cases h
theorem bF{t b off:Nat}{v:Value}(h:zD K o.op=some (t,b,off,v)):∃x y,o.op= .store t x y∧CL K x=some (.pointer (some ⟨b,off,none⟩))∧CL K y=some v:=by
 unfold zD at h
 split at h
 ·rename_i t' x y ho
  split at h
  ·rename_i b' off' hx
   split at h
   ·rename_i v' hy
    simp only [Option.some.injEq,Prod.mk.injEq]at h
    obtain⟨rfl,rfl,rfl,rfl⟩:=h
    exact⟨x,y,ho,hx,hy⟩
   ·cases h
  ·cases h
 ·cases h
theorem cL{t:Nat}{v:Value}(h:sO K o.op=some (t,v)):∃x,o.op= .call { callee:=.builtin .len,args:=#[x],argTypes:=#[t] }∧CL K x=some v:=by
 unfold sO at h
 split at h
 ·rename_i x t' ho
  split at h
  ·rename_i v' hx
   simp only [Option.some.injEq,Prod.mk.injEq]at h
   obtain⟨rfl,rfl⟩:=h
   exact⟨x,ho,hx⟩
  ·cases h
 ·cases h
theorem Tb{t:Nat}{v:Value}{k:IntKind}{m:Int}(h:Vg K o.op=some (t,v,k,m)):∃x i,o.op= .indexAddr t x i∧CL K x=some v∧CL K i=some (.int k m):=by
 unfold Vg at h
 split at h
 ·rename_i t' x i ho
  split at h
  ·rename_i v' hx
   split at h
   ·rename_i k' m' hi
    simp only [Option.some.injEq,Prod.mk.injEq]at h
    obtain⟨rfl,rfl,rfl,rfl⟩:=h
    exact⟨x,i,ho,hx,hi⟩
   ·cases h
  ·cases h
 ·cases h
theorem dQ{f:Nat}{vs:List Value}(h:sK K o.op=some (f,vs)):∃xs ts,o.op= .call { callee:=.value (.func f),args:=xs,argTypes:=ts }∧Nf K xs.toList=some vs:=by
 unfold sK at h
 split at h
 ·rename_i f' xs ts ho
  split at h
  ·rename_i vs' hx
   simp only [Option.some.injEq,Prod.mk.injEq]at h
   obtain⟨rfl,rfl⟩:=h
   exact⟨xs,ts,ho,hx⟩
  ·cases h
 ·cases h
theorem BQ{t f b off fo:Nat}(h:gG K o.op=some (t,f,b,off))(hf:AL P t f=some fo):Ec P N K o w (.pointer (some ⟨b,off+fo,none⟩)):=by
 obtain⟨x,ho,hx⟩:=lS h;exact PG ho hf hx
theorem Cw{t b off:Nat}{us:List Value}{T:TypeId}{u:Value}(h:Sx K o.op=some (t,b,off))(ha:Bj P t=some false)(hb:Ae w b us T)(hu:us[off]? =some u):Ec P N K o w u:=by
 obtain⟨x,ho,hx⟩:=Qh h;exact Ph off ho ha hx hb.cells (Nat.zero_add _).symm hu
theorem FB(j:Nat){t b off o0:Nat}{us:List Value}{u:Value}(h:Sx K o.op=some (t,b,off))(ha:Bj P t=some false)(hcs:AR w b o0 us)(hj:off=o0+j)(hu:us[j]? =some u):Ec P N K o w u:=by
 obtain⟨x,ho,hx⟩:=Qh h;exact Ph j ho ha hx hcs hj hu
theorem BW{t b:Nat}{us:List Value}{T:TypeId}(h:Sx K o.op=some (t,b,0))(ha:Bj P t=some true)(hb:Ae w b us T)(hn:Ar P t=some us.length):Ec P N K o w (.agg us.toArray):=by
 obtain⟨x,ho,hx⟩:=Qh h;exact Pf ho ha hx hb.cells hn
theorem CI{t b off:Nat}{us:List Value}(h:Sx K o.op=some (t,b,off))(ha:Bj P t=some true)(hc:AR w b off us)(hn:Ar P t=some us.length):Ec P N K o w (.agg us.toArray):=by
 obtain⟨x,ho,hx⟩:=Qh h;exact Pf ho ha hx hc hn
section
variable {α:Type} {c:Cd α} {xs:List α} {S:Nat -> Prop} {v:Value} {e:TypeId} {B:Nat}
theorem CJ{t:Nat}(h:sO K o.op=some (t,v))(hu:P.underlying t=some (.slice e))(hs:AK c w S xs v):Ec P N K o w (.int .i64 xs.length):=by
 obtain⟨x,ho,hx⟩:=cL h;exact mE ho hu hx hs
theorem Ln{t:Nat}(h:sO K o.op=some (t,v))(hu:P.underlying t=some (.slice e))(hs:AA c w B S e xs v):Ec P N K o w (.int .i64 xs.length):=by
 obtain⟨x,ho,hx⟩:=cL h;exact SQ ho hu hx hs
theorem HA{y:α}{t:Nat}{k:IntKind}{m:Int}(h:Vg K o.op=some (t,v,k,m))(hu:P.underlying t=some (.slice e))(hc:Ar P e=some c.n)(hs:AK c w S xs v)(hg:AG xs m=some y):
 YE P N K o w (fun u=>∃b off us,u= .pointer (some ⟨b,off,none⟩)∧S b∧c.rep w S y us∧AR w b off us):=by
 obtain⟨x,i,ho,hx,hi⟩:=Tb h;exact XW ho hu hc hx hi hs hg
theorem NR{y:α}{t:Nat}{k:IntKind}{m:Int}(h:Vg K o.op=some (t,v,k,m))(hu:P.underlying t=some (.slice e))(hc:Ar P e=some c.n)(hs:AA c w B S e xs v)(hg:AG xs m=some y):
 YE P N K o w (fun u=>∃g us,u= .pointer (some ⟨g,0+m.toNat*c.n,none⟩)∧v.ownBlock=some g∧c.rep w S y us∧AR w g (0+m.toNat*c.n) us):=by
 obtain⟨x,i,ho,hx,hi⟩:=Tb h;exact MJ ho hu hc hx hi hs hg
end
theorem CT{f:Nat}{vs:List Value}{R:Value->World->Prop}(h:sK K o.op=some (f,vs))(hf:AZ P f=true)(hc:Calls P f vs.toArray w (Di R)):MG P N K o w R:=by
 obtain⟨xs,ts,ho,hx⟩:=dQ h;exact bS ho hf hx hc
theorem HG{f:Nat}{vs:List Value}{v:Value}(h:sK K o.op=some (f,vs))(hf:AZ P f=true)(hc:∀w',AD w w'->Calls P f vs.toArray w' (Di fun u w''=>u=v∧AD w' w'')):xO P N K o w v:=by
 obtain⟨xs,ts,ho,hx⟩:=dQ h;exact YB ho hf hx hc
theorem BV{t b off:Nat}{v:Value}{cur:List Value}{e:TypeId}(h:zD K o.op=some (t,b,off,v))(hb:Ae w b cur e)(hn:Ar P t=some v.cells.toList.length)
 (h1:v.cells.toList.all Value.oneCell'=true) (hfit:Nat.ble (off+v.cells.toList.length) cur.length=true):
 MG P N K o w (fun _ w'=>El b w w'∧Ae w' b (cur.take off++v.cells.toList++cur.drop (off+v.cells.toList.length)) e):=by
 obtain⟨x,y,ho,hx,hy⟩:=bF h;exact PU ho hx hy hb hn h1 hfit
/-! ## Worlds, in fewer words -/
theorem Et{w a b:World}(h:AD w a)(k:AD a b):AD w b∧a.heap.size<=b.heap.size:=⟨AD.trans h k,k.size⟩
theorem xU{p:Nat->Prop}{w a b:World}(h:CW p w a)(k:AD a b):CW p w b∧a.heap.size<=b.heap.size:=⟨CW.ext h k,k.size⟩
theorem Kn.sub{K':KL}{a:Act}(h:Kn N K a)(e:K'.map (fun p=>kl K p.1)=K'.map (fun p=>some p.2)):Kn N K' a:=by
 refine h.weaken ?_
 induction K' with
 |nil=>trivial
 |cons p K' ih=>
  simp only [List.map_cons,List.cons.injEq]at e
  exact⟨e.1,ih e.2⟩
theorem Sy{α:Type}{x y:α}(h:some x=some y):x=y:=Option.some.inj h
theorem CA{α:Type}{x:α}{p:Prop}(h:none=some x):p:=by cases h
theorem Wc{α:Type}{c:Operand}{x y:Code}{t:Bool}{A B:Option α}{r:α}{Q:Exit->Act->World->Prop}(hc:CL K c=some (.bool t))(hF:(bif t then A else B)=some r)(ht:A=some r->WC P N x Q K w)(hf:B=some r->WC P N y Q K w):WC P N (.cond c x y) Q K w:=
 WC.cond hc (fun h=>ht (Oo h hF)) (fun h=>hf (Nu h hF))
def WN(K:KL):List ResultVar->Option (List Value)
 |[]=>some []
 | .tmp t::rs=>match kl K t with
  |some v=>match WN K rs with
   |some vs=>some (v::vs)
   |none=>none
  |none=>none
 | .cell _ _::_=>none
theorem Pm:∀{rs:List ResultVar} {vs:List Value},WN K rs=some vs->Oe P K w rs vs
 |[],vs,h=>by obtain rfl:=Option.some.inj h;trivial
 | .tmp t::rs,vs,h=>by
  unfold WN at h
  split at h
  ·rename_i v h1
   split at h
   ·rename_i vs' h2
    obtain rfl:=Option.some.inj h
    exact⟨h1,Pm h2⟩
   ·cases h
  ·cases h
 | .cell _ _::_,vs,h=>by cases h
theorem Ne{fn:Func}{rs vs R}(hr:fn.results=List.toArray rs)(ho:WN K rs=some vs)(hR:R (.returned (EU vs)) w):NX N (bodyPost P fn R) .ret K w:=NX.end hr (Pm ho) hR
theorem Nn{fn:Func}{rs vs R}(hr:fn.results=List.toArray rs)(ho:WN K rs=some vs)(hR:R (.returned (EU vs)) w):NX N (bodyPost P fn R) .normal K w:=NX.end_n hr (Pm ho) hR
end
end Go.Eng
namespace Go.Eng
open Go Go.RowKit
theorem Eu{w a c:World}{b:Nat}(h:AD w a)(hu:El b a c)(hb:w.heap.size<=b:=by omega):AD w c∧c.heap.size=a.heap.size:=⟨Below.trans h (El.below hu hb),hu.size⟩
theorem Ebu{p:Nat->Prop}{w a c:World}{b:Nat}(h:CW p w a)(hu:El b a c)(hb:p b∨w.heap.size<=b):CW p w c∧c.heap.size=a.heap.size:=⟨CW.upd h hu hb,hu.size⟩
/-! ## What keeps slices apart -/
abbrev Nb(v:Value)(b:Nat):Prop:=∀g,v.ownBlock=some g->g≠b
abbrev Ns(v:Value)(lo hi:Nat):Prop:=∀g,v.ownBlock=some g->g<lo∨hi<=g
abbrev No(v u:Value):Prop:=∀g q,v.ownBlock=some g->u.ownBlock=some q->g≠q
abbrev Bd(v:Value)(lo hi:Nat):Prop:=∀q,v.ownBlock=some q->lo<=q∧q<hi
section
variable {v v' u:Value} {b lo hi lo' hi':Nat} {w w':World}
theorem Nb.of(h:Bd v lo hi)(k:b<lo∨hi<=b:=by omega):Nb v b:=fun g hg=>by have:=h g hg;omega
theorem Ns.of(h:Bd v lo hi)(k:hi'<=lo∨hi<=lo':=by omega):Ns v lo' hi':=fun g hg=>by have:=h g hg;omega
theorem No.of(h:Bd v lo hi)(h':Bd u lo' hi')(k:hi<=lo'∨hi'<=lo:=by omega):No v u:=fun g q hg hq=>by have:=h g hg;have:=h' q hq;omega
theorem No.symm(h:No v u):No u v:=fun g q hg hq e=>h q g hq hg e.symm
theorem Gb(h:BE w w' v v')(k:Nb v b)(hb:b<w.heap.size:=by omega):Nb v' b:=BE.sepP (p:=fun g=>g≠b) h k (fun g hg=>by omega)
theorem Gs(h:BE w w' v v')(k:Ns v lo hi)(hb:hi<=w.heap.size:=by omega):Ns v' lo hi:=BE.sepP (p:=fun g=>g<lo∨hi<=g) h k (fun g hg=>by omega)
theorem Gn(h:BE w w' v v')(k:No v u)(hb:Bd u lo hi)(hh:hi<=w.heap.size:=by omega):No v' u:=fun g q hg hq=>
 BE.sepP (p:=fun g=>∀q,u.ownBlock=some q->g≠q) h (fun g hg q hq=>k g q hg hq) (fun g hg q hq=>by have:=hb q hq;omega) g hg q hq
theorem Ge(h:AD w w'){w2:World}(hg:BE w' w2 v v')(k:Bd v lo hi)(hl:w.heap.size<=lo:=by omega):AD w w2∧w'.heap.size<=w2.heap.size:=⟨Below.trans h (BE.low hg (fun g hg=>by have:=k g hg;omega) h.size),hg.1.size⟩
theorem Je{α:Type}{c:Cd α}{B:Nat}{S:Nat->Prop}{e:TypeId}{zs:List α}(h:BE w w' v v')(ho:AA c w' B S e zs v')(k:Bd v lo hi)(hl:lo<=w.heap.size:=by omega)(hh:hi<=w'.heap.size:=by omega):Bd v' lo w'.heap.size:=BE.bd h ho k hl hh
theorem AA.bd{α:Type}{c:Cd α}{B:Nat}{S:Nat->Prop}{e:TypeId}{zs:List α}(ho:AA c w B S e zs v):Bd v B w.heap.size:=ho.blk
end
end Go.Eng
namespace Go.Eng
open Go Go.RowKit
theorem AK.oh{α:Type}{c:Cd α}{w w':World}{lo H:Nat}{xs:List α}{v:Value}(h:AK c w (Iv lo H) xs v)(hH:H<=w.heap.size)(he:AD w w'):AK c w' (Iv lo H) xs v:=h.old he hH
theorem AK.ph{α:Type}{c:Cd α}{w w':World}{H:Nat}{xs:List α}{v:Value}(h:AK c w (Iv 0 H) xs v)(hH:H<=w.heap.size)(he:AD w w'):AK c w' (Iv 0 w'.heap.size) xs v:=(h.old he hH).wide (Nat.le_refl _) (Nat.le_trans hH he.size)
end Go.Eng
namespace Go.Eng
open Go Go.RowKit
/-! ## Regions whose order is drawn, with guards -/
section
variable {P:Program} {N:Nat} {ops:Array Oper} {Q:Exit -> Act -> World -> Prop} {n:Nat} {K:KL} {w w0:World} {f:Nat} {listed:Array Bool} {p:Nat -> Prop}
theorem Na{o:Oper}{g:Gd}(h:FM N ops K o=g)(hg:g≠ .no):∀t,o.dst=some t->Nat.blt t N=true:=Cy.h (KR h hg)
theorem HLy{o:Oper}{v:Value}(i:Nat)(hh:EI ops n=true)(hi:ops[i]? =some o)(hc:(Nat.blt i n&&Region.free .any ops listed i&&(Region.ready .any ops listed).contains i)=true)(h0:FM N ops K o= .yes)
 (h:Ec P N K o w0 v) (k:HL P N ops n (noPan Q) w0 f (listed.setIfInBounds i true) (BT K o.dst v) w):HL P N ops n (noPan Q) w0 (f+1) listed K w:=by
 intro inv hx a hK
 obtain⟨hs,hn,ht⟩:=EI.spec hh
 simp only [Bool.and_eq_true]at hc
 have hin:i<n:=by have h2:=hc.1.1;simp [Nat.blt]at h2;omega
 have hr:i∈Region.ready .any ops listed:=by simpa using hc.2
 refine Cb.first hi hin hn (Region.noSelect_spec hs) ht (fun c a w h=>h.elim) f listed a w inv (Region.free_spec hi hc.1.2) hr ?_ hx (k (inv.set hr hin) hx _ (hK.put (Na h0 (by simp))))
 exact .inl ⟨Fg h0 hK,fun w' hw'=>h a hK w' hw'⟩
theorem AcO{o:Oper}{Ψ:Value->Prop}(i:Nat)(hh:EI ops n=true)(hi:ops[i]? =some o)(hc:(Nat.blt i n&&Region.free .any ops listed i&&(Region.ready .any ops listed).contains i)=true)(h0:FM N ops K o= .yes)
 (h:YE P N K o w0 Ψ) (k:∀v,Ψ v->HL P N ops n (noPan Q) w0 f (listed.setIfInBounds i true) (BT K o.dst v) w):HL P N ops n (noPan Q) w0 (f+1) listed K w:=by
 obtain⟨v,h1,h2⟩:=h;exact HLy i hh hi hc h0 h1 (k v h2)
theorem HLk{o:Oper}(i:Nat)(hh:EI ops n=true)(hi:ops[i]? =some o)(hc:(Nat.blt i n&&Region.free .any ops listed i&&(Region.ready .any ops listed).contains i)=true)(h0:FM N ops K o= .skip)
 (k:HL P N ops n (noPan Q) w0 f (listed.setIfInBounds i true) (BT K o.dst undef) w):HL P N ops n (noPan Q) w0 (f+1) listed K w:=by
 intro inv hx a hK
 obtain⟨hs,hn,ht⟩:=EI.spec hh
 simp only [Bool.and_eq_true]at hc
 have hin:i<n:=by have h2:=hc.1.1;simp [Nat.blt]at h2;omega
 have hr:i∈Region.ready .any ops listed:=by simpa using hc.2
 refine Cb.first hi hin hn (Region.noSelect_spec hs) ht (fun c a w h=>h.elim) f listed a w inv (Region.free_spec hi hc.1.2) hr ?_ hx (k (inv.set hr hin) hx _ (hK.put (Na h0 (by simp))))
 exact .inr ⟨Nr h0 hK,rfl⟩
theorem HLe{o:Oper}{R:Value->World->Prop}(i:Nat)(hi:ops[i]? =some o)(hin:Nat.blt i n=true)(hr:Region.ready .any ops listed=[i])(h0:FM N ops K o= .yes)
 (h:MG P N K o w R) (k:∀v w',R v w'->AD w0 w'∧HL P N ops n (noPan Q) w0 f (listed.setIfInBounds i true) (BT K o.dst v) w'):HL P N ops n (noPan Q) w0 (f+1) listed K w:=by
 intro inv hx a hK
 have hin':i<n:=by have h2:=hin;simp [Nat.blt]at h2;omega
 have hri:i∈Region.ready .any ops listed:=by rw [hr];simp
 refine⟨fun h0=>(by rw [h0]at hr;cases hr),fun j hj=>?_⟩
 rw [hr]at hj
 have hji:j=i:=by simpa using hj
 subst hji
 unfold wpOp
 simp only [hi]
 rw [if_pos (Fg h0 hK)]
 refine .inl (h a hK _ _ fun u w' hR=>?_)
 obtain⟨h1,h2⟩:=k u w' hR
 exact⟨fun _=>h1,h2 (inv.set hri hin') h1 _ (hK.put (Na h0 (by simp)))⟩
theorem HBe{o:Oper}{R:Value->World->Prop}(i:Nat)(hi:ops[i]? =some o)(hin:Nat.blt i n=true)(hr:(Region.ready .any ops listed).contains i=true)(h0:FM N ops K o= .yes)
 (h:MG P N K o w R) (k:∀v w',R v w'->AD w0 w'∧HL P N ops n (noPan Q) w0 f (listed.setIfInBounds i true) (BT K o.dst v) w'):HB P N ops n (noPan Q) w0 f listed K w i:=by
 intro inv hx a hK
 have hin':i<n:=by have h2:=hin;simp [Nat.blt]at h2;omega
 have hri:i∈Region.ready .any ops listed:=by simpa using hr
 unfold wpOp
 simp only [hi]
 rw [if_pos (Fg h0 hK)]
 refine .inl (h a hK _ _ fun u w' hR=>?_)
 obtain⟨h1,h2⟩:=k u w' hR
 exact⟨fun _=>h1,h2 (inv.set hri hin') h1 _ (hK.put (Na h0 (by simp)))⟩
theorem WC.heldD{id:Nat}{l:List Oper}(n:Nat)(hm:P.follows .mixedOrders=true)(hh:EI l.toArray n=true)
 (h:∀w',AD w w'->EI l.toArray n=true->HL P N l.toArray n (noPan Q) w' l.length (Array.replicate l.length false) K w'):WC P N (.region id l.toArray true) Q K w:=WC.held n hm fun w' hx=>h w' hx hh
def qL(ops:Array Oper)(n:Nat):List Nat->Array Bool->Bool
 |[],_=>true
 |i::is,listed=>Nat.blt i n&&Region.free .any ops listed i&&(Region.ready .any ops listed).contains i&&qL ops n is (listed.setIfInBounds i true)
end
section
variable (P:Program) (N:Nat) (ops:Array Oper) (n:Nat) (Q:Exit -> Act -> World -> Prop) (w0:World)
def cN:List Nat->Nat->Array Bool->KL->World->Prop
 |[]=>fun f listed K w=>HL P N ops n (noPan Q) w0 f listed K w
 |i::is=>fun f listed K w=>match f with
  |0=>False
  |f+1=>match ops[i]? with
   |none=>False
   |some o=>match FM N ops K o with
    | .yes=>match yq K o.op with
     |some v=>cN is f (listed.setIfInBounds i true) (BT K o.dst v) w
     |none=>False
    | .skip=>cN is f (listed.setIfInBounds i true) (BT K o.dst undef) w
    | .no=>False
end
section
variable {P:Program} {N:Nat} {ops:Array Oper} {Q:Exit -> Act -> World -> Prop} {n:Nat} {w w0:World}
theorem Hr(hh:EI ops n=true):∀(is:List Nat) {f:Nat} {listed:Array Bool} {K:KL},qL ops n is listed=true->cN P N ops n Q w0 is f listed K w->HL P N ops n (noPan Q) w0 f listed K w
 |[],_,_,_,_,h=>h
 |i::is,0,listed,K,_,h=>h.elim
 |i::is,f+1,listed,K,hc,h=>by
  simp only [qL,Bool.and_eq_true]at hc
  have hc':(Nat.blt i n&&Region.free .any ops listed i&&(Region.ready .any ops listed).contains i)=true:=by simp only [Bool.and_eq_true];exact hc.1
  simp only [cN]at h
  split at h
  ·exact h.elim
  ·rename_i o hi
   split at h
   ·rename_i hg
    split at h
    ·rename_i v hv;exact HLy i hh hi hc' hg (Mb hv) (Hr hh is hc.2 h)
    ·exact h.elim
   ·rename_i hg;exact HLk i hh hi hc' hg (Hr hh is hc.2 h)
   ·exact h.elim
end
end Go.Eng
namespace Go.Eng
open Go Go.RowKit
/-! ## Structs of plain fields, compared -/
def kK(u v:Value):Option Bool:=match u with
 | .int k a=>match v with
  | .int k' b=>bif decide (k=k')then some (a==b)else none
  |_=>none
 | .bool a=>match v with
  | .bool b=>some (a==b)
  |_=>none
 | .string a=>match v with
  | .string b=>some (a.toList==b.toList)
  |_=>none
 |_=>none
def PE:List Value->List Value->Option Bool
 |[],[]=>some true
 |u::us,v::vs=>match us with
  |[]=>match vs with
   |[]=>kK u v
   |_=>none
  |_::_=>match kK u v with
   |some r=>match PE us vs with
    |some q=>some (r&&q)
    |none=>none
   |none=>none
 |_,_=>none
def yT(P:Program):List Field->Nat->Bool
 |[],_=>true
 |f::fs,i=>f.name != "_" &&Nat.beq f.offset i&&(match P.underlying f.type with
  |some (.int _)=>true
  |some .bool=>true
  |some .string=>true
  |_=>false)&&yT P fs (i+1)
def iM(P:Program)(t:Nat)(n:Nat):Bool:=match P.underlying t with
 |some (.struct fs)=>yT P fs.toList 0&&Nat.beq fs.size n&& !P.stoodInHeld t&& !P.eqGuardType P.depth t
 |_=>false
section
variable {P:Program} {N:Nat} {K:KL} {o:Oper} {w:World}
theorem iH{d t:Nat}{u v:Value}{r:Bool}(h:kK u v=some r)(ht:(match P.underlying t with
 |some (.int _)=>true
 |some .bool=>true
 |some .string=>true
 |_=>false)=true) (hty:∀k,P.underlying t=some (.int k)->∃k' a,u= .int k' a) (htb:P.underlying t=some .bool->∃a,u= .bool a) (hts:P.underlying t=some .string->∃a,u= .string a):
 (Op.equalIn (d+1) t u v).run P w= .ok r w:=by
 split at ht
 ·rename_i k hu
  obtain⟨k',a,rfl⟩:=hty k hu
  unfold kK at h
  cases v<;>simp only [reduceCtorEq]at h
  rename_i k2 b
  by_cases hk:k'=k2
  ·subst hk
   rw [decide_eq_true rfl,cond_true]at h
   obtain rfl:=Option.some.inj h
   exact run_equalIn_int w d t k' k a b hu
  ·rw [decide_eq_false hk]at h;cases h
 ·rename_i hu
  obtain⟨a,rfl⟩:=htb hu
  unfold kK at h
  cases v<;>simp only [reduceCtorEq]at h
  obtain rfl:=Option.some.inj h
  exact run_equalIn_bool' w d t _ _ hu
 ·rename_i hu
  obtain⟨a,rfl⟩:=hts hu
  unfold kK at h
  cases v<;>simp only [reduceCtorEq]at h
  obtain rfl:=Option.some.inj h
  exact run_equalIn_string w d t _ _ hu
 ·cases ht
def sG(P:Program):List Field->List Value->Bool
 |[],[]=>true
 |f::fs,u::us=>(match P.underlying f.type with
  |some (.int _)=>match u with
   | .int _ _=>true
   |_=>false
  |some .bool=>match u with
   | .bool _=>true
   |_=>false
  |some .string=>match u with
   | .string _=>true
   |_=>false
  |_=>false)&&sG P fs us
 |_,_=>false
theorem Im{d:Nat}{xs ys:Array Value}:∀(fs:List Field) (i:Nat) (us vs:List Value) (r:Bool),yT P fs i=true->sG P fs us=true->xs.toList.drop i=us->ys.toList.drop i=vs->PE us vs=some r->(Op.eqFields (d+1) xs ys fs).run P w= .ok r w
 |[],i,us,vs,r,_,h2,_,_,h5=>by
  cases us with
  |nil=>
   cases vs with
   |nil=>simp [PE]at h5;subst h5;simp [Op.eqFields]
   |cons _ _=>simp [PE]at h5
  |cons _ _=>simp [sG]at h2
 |f::fs,i,us,vs,r,h1,h2,h3,h4,h5=>by
  cases us with
  |nil=>simp [sG]at h2
  |cons u us=>
   cases vs with
   |nil=>cases us<;>simp [PE]at h5
   |cons v vs=>
    simp only [yT,Bool.and_eq_true,bne_iff_ne,ne_eq]at h1
    obtain⟨⟨⟨hn,ho⟩,ht⟩,h1⟩:=h1
    have ho:f.offset=i:=Nat.eq_of_beq_eq_true ho
    simp only [sG,Bool.and_eq_true]at h2
    obtain⟨hc,h2⟩:=h2
    have hxu:xs[f.offset]? =some u:=by
     rw [ho,←Array.getElem?_toList]
     have:=congrArg (fun l:List Value=>l[0]?) h3
     simpa using this
    have hyv:ys[f.offset]? =some v:=by
     rw [ho,←Array.getElem?_toList]
     have:=congrArg (fun l:List Value=>l[0]?) h4
     simpa using this
    have ha:Bj P f.type=some false:=by
     unfold Bj
     split at ht<;>first|(rename_i hu;rw [hu])|cases ht
    have e3:xs.toList.drop (i+1)=us:=by
     rw [←List.drop_drop,h3];rfl
    have e4:ys.toList.drop (i+1)=vs:=by
     rw [←List.drop_drop,h4];rfl
    have key:∀r0,kK u v=some r0->(Op.equalIn (d+1) f.type u v).run P w= .ok r0 w:=by
     intro r0 hr0
     refine iH hr0 ht ?_ ?_ ?_
     ·intro k hu;rw [hu]at hc;cases u<;>simp at hc;exact⟨_,_,rfl⟩
     ·intro hu;rw [hu]at hc;cases u<;>simp at hc;exact⟨_,rfl⟩
     ·intro hu;rw [hu]at hc;cases u<;>simp at hc;exact⟨_,rfl⟩
    have step:∀r0 q,kK u v=some r0->(Op.eqFields (d+1) xs ys fs).run P w= .ok q w->(Op.eqFields (d+1) xs ys (f::fs)).run P w= .ok (r0&&q) w:=by
     intro r0 q hr0 hq
     have hk:=key r0 hr0
     simp only [Op.eqFields]
     rw [if_pos hn]
     simp only [Sem.run_bind,part,Hl ha,Result.andThen_ok,Bool.false_eq_true,if_false,hxu,hyv,Sem.run_pure,hk]
     cases r0
     ·simp
     ·simp [hq]
    cases us with
    |nil=>
     cases vs with
     |nil=>
      simp only [PE]at h5
      have:=step r true h5 (Im fs (i+1) [] [] true h1 h2 e3 e4 rfl)
      simpa using this
     |cons _ _=>simp [PE]at h5
    |cons u2 us2=>
     simp only [PE]at h5
     split at h5
     ·rename_i r0 hr0
      split at h5
      ·rename_i q hq
       obtain rfl:=Option.some.inj h5
       exact step r0 q hr0 (Im fs (i+1) _ _ q h1 h2 e3 e4 hq)
      ·cases h5
     ·cases h5
def gD(P:Program)(t:Nat)(us:List Value):Bool:=match P.underlying t with
 |some (.struct fs)=>sG P fs.toList us
 |_=>false
theorem jN{t n:Nat}{us vs:List Value}{r:Bool}(hB:iM P t n=true)(hC:gD P t us=true)(h:PE us vs=some r):
 (Op.equalIn 10000 t (.agg us.toArray) (.agg vs.toArray)).run P w= .ok r w∧P.eqGuardType P.depth t=false:=by
 unfold iM at hB
 unfold gD at hC
 split at hB
 ·rename_i fs hu
  rw [hu]at hC
  simp only [Bool.and_eq_true,Bool.not_eq_true']at hB
  obtain⟨⟨⟨h1,h2⟩,h3⟩,h4⟩:=hB
  have hf:P.fieldsOf t=fs:=by unfold Program.fieldsOf;rw [hu]
  refine⟨?_,h4⟩
  rw [show(10000:Nat)=9998+1+1 from rfl,run_equalIn_struct w _ t _ _ (by rw [hf];exact hu) h3,hf]
  exact Im fs.toList 0 us vs r h1 hC (by simp) (by simp) h
 ·cases hB
theorem sI{t x y u n us vs r}(ho:o.op= .binOp .neq t x y u)(hx:CL K x=some (.agg (List.toArray us)))(hy:CL K y=some (.agg (List.toArray vs)))(hB:iM P t n=true)(hC:gD P t us=true)(h:PE us vs=some r):Ec P N K o w (.bool (!r)):=by
 intro a hK w' _
 obtain⟨h1,h2⟩:=jN (w:=w') hB hC h
 have h3:=run_eqGuard_agg (P:=P) w' .neq t x y us.toArray vs.toArray h2
 have h4:(binOp .neq t (.agg us.toArray) (.agg vs.toArray)).run P w'= .ok (.bool (!r)) w':=by rw [run_neq_struct,h1];rfl
 simp only [execOp,ho,hK.ev hx,hK.ev hy,Sem.run_bind,h3,Result.andThen_ok,h4,Sem.run_pure]
end
end Go.Eng
namespace Go.Eng
open Go Go.RowKit
/-! ## Slices of slices of the call's own, each apart from the others -/
theorem AA.slp{α:Type}{c:Cd α}{w:World}{B:Nat}{S S':Nat->Prop}{e:TypeId}{xs:List α}{v:Value}[DO c](h:AA c w B S e xs v)(hb:∀g,v.ownBlock=some g->S' g):AK c w S' xs v:=by
 obtain⟨cs,h0,h3⟩:=h
 have h1:=h0
 obtain⟨hl,⟨rfl,hn⟩|⟨g,cap,cur,rfl,_,hh,h5,h6,h7,h8⟩⟩:=h1
 ·have:xs=[]:=List.eq_nil_of_length_eq_zero hn
  subst this;exact AK.nil _ _ _
 ·refine⟨some ⟨g,0,none⟩,cap,rfl,⟨h5,fun h=>by cases h⟩,by simpa [maxLen] using h6,fun hpos=>⟨g,0,rfl,hb g rfl,fun i x hx=>⟨_,DO.any (h3 i x hx),fun j u hu=>?_⟩⟩⟩
  have hjn:j<c.n:=by
   have:=(List.getElem?_eq_some_iff.1 hu).1
   simp [Ax]at this;omega
  rw [Bf hjn]at hu
  have:=h0.cells (g:=g) rfl _ _ hu
  rw [DU]at this
  rw [show 0+i*c.n+j=0+(i*c.n+j) by omega];exact⟨this,by simp [World.frozen?,hh]⟩
def own2{α:Type}(c:Cd α)(w:World)(B hi:Nat)(e1 e2:TypeId)(xss:List (List α))(v:Value)(vs:List Value):Prop:=
 w.ownsRow B e1 1 v xss.length vs∧(∀(i:Nat) (xs:List α) (u:Value),xss[i]? =some xs->vs[i]? =some u->AA c w B (Iv 0 0) e2 xs u∧Bd u B hi∧No v u)∧(∀(i j:Nat) (u u':Value),i≠j->vs[i]? =some u->vs[j]? =some u'->No u u')
def Yh{α:Type}(c:Cd α)(w:World)(B hi:Nat)(e1 e2:TypeId)(xss:List (List α))(v:Value)(vs:List Value)(k:Nat)(u0:Value):Prop:=
 w.ownsRow B e1 1 v xss.length vs∧(∀(i:Nat) (xs:List α) (u:Value),i≠k->xss[i]? =some xs->vs[i]? =some u->AA c w B (Iv 0 0) e2 xs u∧Bd u B hi∧No v u∧No u0 u)∧(∀(i j:Nat) (u u':Value),i≠k->j≠k->i≠j->vs[i]? =some u->vs[j]? =some u'->No u u')∧No v u0∧Bd u0 B hi
theorem ownsRow.keep{w w':World}{B n:Nat}{e:TypeId}{v:Value}{m:Nat}{cs:List Value}(h:w.ownsRow B e n v m cs)(hg:∀g,v.ownBlock=some g->w'.heap[g]? =w.heap[g]?):w'.ownsRow B e n v m cs:=by
 obtain⟨h1,h2⟩:=h
 refine⟨h1,?_⟩
 rcases h2 with h2|⟨g,cap,cur,rfl,hb,hh,rest⟩
 ·exact .inl h2
 ·exact .inr ⟨g,cap,cur,rfl,hb,(hg g rfl).trans hh,rest⟩
section
variable {α:Type} {c:Cd α} [DO c] {w w':World} {B hi:Nat} {e1 e2:TypeId} {xss:List (List α)} {v:Value} {vs:List Value}
theorem own2.keep(h:own2 c w B hi e1 e2 xss v vs)(h1:∀g,v.ownBlock=some g->w'.heap[g]? =w.heap[g]?)(h2:∀k,B<=k->k<hi->w'.heap[k]? =w.heap[k]?):own2 c w' B hi e1 e2 xss v vs:=by
 obtain⟨a,b,d⟩:=h
 refine⟨ownsRow.keep a h1,fun i xs u hx hu=>?_,d⟩
 obtain⟨p,q,r⟩:=b i xs u hx hu
 exact⟨p.keep (fun g hg=>h2 g (q g hg).1 (q g hg).2) (fun _ h=>h) (fun k h=>absurd h.2 (Nat.not_lt_zero k)),q,r⟩
theorem own2.blk(h:own2 c w B hi e1 e2 xss v vs):Bd v B w.heap.size:=h.1.lt
theorem own2.ext(h:own2 c w B hi e1 e2 xss v vs)(he:AD w w')(hle:hi<=w.heap.size):own2 c w' B hi e1 e2 xss v vs:=
 h.keep (fun g hg=>he.block g (h.blk g hg).2) (fun k _ h=>he.block k (by omega))
theorem own2.upd{b:Nat}(h:own2 c w B hi e1 e2 xss v vs)(hu:El b w w')(hne:Nb v b)(hb:b<B∨hi<=b:=by omega):own2 c w' B hi e1 e2 xss v vs:=
 h.keep (fun g hg=>hu.block g (hne g hg)) (fun k h1 h2=>hu.block k (by omega))
theorem own2.wide{hi':Nat}(h:own2 c w B hi e1 e2 xss v vs)(hle:hi<=hi':=by omega):own2 c w B hi' e1 e2 xss v vs:=by
 obtain⟨a,b,d⟩:=h
 refine⟨a,fun i xs u hx hu=>?_,d⟩
 obtain⟨p,q,r⟩:=b i xs u hx hu
 exact⟨p,fun g hg=>by have:=q g hg;omega,r⟩
theorem own2.but{p:Nat->Prop}(h:own2 c w B hi e1 e2 xss v vs)(hb:CW p w w')(hne:∀k,p k->∀g,v.ownBlock=some g->k≠g)(hle:hi<=w.heap.size)(hs:∀k,p k->k<B∨hi<=k):own2 c w' B hi e1 e2 xss v vs:=
 h.keep (fun g hg=>hb.block g (h.blk g hg).2 (fun e=>hne g e g hg rfl)) (fun k h1 h2=>hb.block k (by omega) (fun e=>by have:=hs k e;omega))
theorem BE.own2{t t':Value}(hg:BE w w' t t')(h:own2 c w B hi e1 e2 xss v vs)(hne:No t v)(hle:hi<=w.heap.size)(hs:∀g,t.ownBlock=some g->g<B∨hi<=g):own2 c w' B hi e1 e2 xss v vs:=
 h.keep (fun g hv=>hg.1.block g (h.blk g hv).2 (fun e=>hne g g e.symm hv rfl)) (fun k h1 h2=>hg.1.block k (by omega) (fun e=>by have:=hs k e.symm;omega))
theorem jQ{cs:List Value}{i:Nat}{u:Value}(h:cs[i]? =some u):Ax cs 1 i=[u]:=by
 apply List.ext_getElem?
 intro q
 by_cases hq:q<1
 ·obtain rfl:q=0:=by omega
  rw [Bf hq];simpa using h
 ·rw [List.getElem?_eq_none (by simp [Ax];omega),List.getElem?_eq_none (by simp;omega)]
theorem own2.r(h:own2 c w B hi e1 e2 xss v vs):AA (DI c) w B (SX B hi v) e1 xss v:=by
 obtain⟨a,b,d⟩:=h
 refine⟨vs,a,fun i x hx=>?_⟩
 have hi':i<vs.length:=by
  have:=(List.getElem?_eq_some_iff.1 hx).1
  rw [a.1];omega
 obtain⟨p,q,r⟩:=b i x _ hx (List.getElem?_eq_getElem hi')
 have e:Ax vs (DI c).n i=[vs[i]]:=jQ (List.getElem?_eq_getElem hi')
 rw [e]
 exact⟨_,rfl,p.slp fun g hg=>⟨(q g hg).1,(q g hg).2,fun e=>r g g e hg rfl⟩⟩
theorem own2.nil:own2 c w B hi e1 e2 ([]:List (List α)) (.slice none 0 0) []:=⟨World.ownsRow_nil w B e1 1,fun i xs u h=>by simp at h,fun i j u u' _ h=>by simp at h⟩
theorem own2.sub{m:Int}{xs:List α}{u:Value}(h:own2 c w B hi e1 e2 xss v vs)(hy:AG xss m=some xs)(hu:vs[m.toNat]? =some u):AA c w B (Iv 0 0) e2 xs u∧Bd u B hi∧No v u:=h.2.1 _ _ _ (EQ hy).2.2 hu
theorem own2.at{m:Int}{xs:List α}{g:Nat}{us:List Value}(h:own2 c w B hi e1 e2 xss v vs)(hy:AG xss m=some xs)(hg:v.ownBlock=some g)(hl:us.length=1)(hcl:AR w g (0+m.toNat*(DI c).n) us):∃u,us=[u]∧vs[m.toNat]? =some u:=by
 obtain⟨u,rfl⟩:=List.length_eq_one_iff.1 hl
 refine⟨u,rfl,?_⟩
 have hlt:m.toNat<vs.length:=by
  have:=(List.getElem?_eq_some_iff.1 (EQ hy).2.2).1
  rw [h.1.1];omega
 have h1:=h.1.cells hg m.toNat _ (List.getElem?_eq_getElem hlt)
 have h2:=(hcl 0 u rfl).1
 rw [DU]at h1
 have e:0+m.toNat*(DI c).n+0=0+m.toNat:=by show 0+m.toNat*1+0=0+m.toNat;omega
 rw [e,h1]at h2
 rw [List.getElem?_eq_getElem hlt];exact h2
theorem own2.grew{m:Nat}{u u':Value}(h:own2 c w B hi e1 e2 xss v vs)(hu:vs[m]? =some u)(hbu:Bd u B hi)(hvu:No v u)(hg:BE w w' u u')(hle:hi<=w.heap.size)(hB:B<=w.heap.size)(hlt:∀g,u'.ownBlock=some g->g<w'.heap.size):Yh c w' B w'.heap.size e1 e2 xss v vs m u':=by
 obtain⟨a,b,d⟩:=h
 have hsz:=hg.1.size
 have hav:∀g,v.ownBlock=some g->w'.heap[g]? =w.heap[g]?:=fun g hv=>hg.1.block g (a.lt g hv).2 (fun e=>hvu g g hv e.symm rfl)
 refine⟨ownsRow.keep a hav,fun i xs t hi' hx ht=>?_,fun i j t t' _ _ hij ht ht'=>d i j t t' hij ht ht',?_,?_⟩
 ·obtain⟨p,q,r⟩:=b i xs t hx ht
  have hn:No u t:=d m i u t (fun e=>hi' e.symm) hu ht
  refine⟨p.keep (fun g hg2=>hg.1.block g (by have:=q g hg2;omega) (fun e=>hn g g e.symm hg2 rfl)) (fun _ h=>h) (fun k h=>absurd h.2 (Nat.not_lt_zero k)),fun g hg2=>by have:=q g hg2;omega,r,fun g q2 hg2 hq2=>?_⟩
  rcases hg.2 g hg2 with h1|h1
  ·exact hn g q2 h1 hq2
  ·have:=q q2 hq2;omega
 ·intro g q2 hg2 hq2
  rcases hg.2 q2 hq2 with h1|h1
  ·exact hvu g q2 hg2 h1
  ·have:=a.lt g hg2;omega
 ·intro g hg2
  have:=hlt g hg2
  rcases hg.2 g hg2 with h1|h1
  ·have:=hbu g h1;omega
  ·omega
end
section
variable {P:Program} {N:Nat} {α:Type} {c:Cd α} [DO c] {w:World} {B hi:Nat} {e1 e2:TypeId} {xss:List (List α)} {v:Value} {vs:List Value} {o:Oper} {K:KL}
theorem AbH{t g m off:Nat}{u:Value}{zs:List α}(h:zD K o.op=some (t,g,off,u))(hoff:off=0+m*(DI c).n)(hg:v.ownBlock=some g)(hn:Ar P t=some 1)(hh:Yh c w B hi e1 e2 xss v vs m u)(ho:AA c w B (Iv 0 0) e2 zs u)(hm:m<xss.length):
 MG P N K o w (fun _ w'=>El g w w'∧own2 c w' B hi e1 e2 (xss.set m zs) v (vs.set m u)):=by
 obtain⟨x,y,hop,hx,hy⟩:=bF h
 obtain⟨a,b,d,hv,hbu⟩:=hh
 have hu1:u.cells= #[u]:=ho.cells
 have hu2:u.oneCell'=true:=ho.one
 have a':=a
 obtain⟨hl,⟨rfl,hn0⟩|⟨g',cap,cur,rfl,hb,hhp,h5,h6,h7,h8⟩⟩:=a'
 ·omega
 simp [Value.ownBlock]at hg
 subst hg
 obtain⟨ti,hi1,hsz⟩:=Option.map_eq_some_iff.1 hn
 have hoff':off=m:=by rw [hoff];show 0+m*1=m;omega
 subst hoff'
 have hlen:off<cur.size:=by rw [h7];omega
 have hst:=run_storeCells_at P g' off e1 [u] 0 cur w hhp (by simp;omega) (by simpa using hu2)
 simp only [Nat.add_zero]at hst
 intro ac hK Kt Q hk
 have hr:(execOp ac.eval o).run P w= .ok .skip (w.setRow g' (cur.toList.set off u).toArray):=by
  have e:List.take off cur.toList++[u]++List.drop (off+1) cur.toList=cur.toList.set off u:=by
   rw [List.set_eq_take_append_cons_drop,if_pos (by simpa using hlen)];simp
  simp [execOp,hop,hK.ev hx,hK.ev hy,Instr.storeAt,Instr.sureAddr,storeVar,Sem.run_bind,sizeOf,typeInfo,hi1,hsz,hu1]at hst ⊢
  rw [hst]
  simp at e
  simp [e]
 unfold Oper.wp
 rw [hr]
 have hU:=El.setRow w g' (cur.toList.set off u).toArray
 refine hk _ _ ⟨hU,?_,?_,?_⟩
 ·refine⟨by rw [List.length_set,List.length_set];exact hl,.inr ⟨g',cap,_,by simp,hb,setRow_heap w g' cur _ e1 _ hhp,by simpa using h5,h6,by simpa using h7,?_⟩⟩
  rw [List.length_set]
  simp only [List.toList_toArray,Nat.mul_one]
  rw [List.take_set]
  congr 1
  simpa using h8
 ·intro i xs t hx2 ht
  rcases NV hx2 with ⟨rfl,rfl⟩|⟨hne,hx3⟩
  ·have:t=u:=by
    rw [List.getElem?_set_self (by rw [hl];omega)]at ht
    exact(Option.some.inj ht).symm
   subst this
   refine⟨ho.keep (fun q hq=>setRow_other _ _ _ _ (fun e=>?_)) (fun _ h=>h) (fun k h=>absurd h.2 (Nat.not_lt_zero k)),hbu,hv⟩
   subst e
   exact hv q q rfl hq rfl
  ·rw [List.getElem?_set_ne hne]at ht
   obtain⟨p,q,r,s⟩:=b i xs t (fun e=>hne e.symm) hx3 ht
   exact⟨p.keep (fun g2 hg2=>setRow_other _ _ _ _ (fun e=>by subst e;exact r g2 g2 rfl hg2 rfl)) (fun _ h=>h) (fun k h=>absurd h.2 (Nat.not_lt_zero k)),q,r⟩
 ·intro i j t t' hij ht ht'
  have get:∀i t,(vs.set off u)[i]? =some t->(i=off∧t=u)∨(i≠off∧vs[i]? =some t):=fun i t h=>by
   rcases NV h with ⟨e,e2⟩|⟨e,e2⟩
   ·exact .inl ⟨e.symm,e2⟩
   ·exact .inr ⟨fun q=>e q.symm,e2⟩
  have hx:∀i t,i≠off->vs[i]? =some t->∃xs,xss[i]? =some xs:=fun i t _ h=>by
   have:=(List.getElem?_eq_some_iff.1 h).1
   exact⟨_,List.getElem?_eq_getElem (by rw [hl]at this;omega)⟩
  rcases get i t ht with ⟨e,rfl⟩|⟨e,h1⟩<;>rcases get j t' ht' with ⟨e',rfl⟩|⟨e',h2⟩
  ·exact absurd (e.trans e'.symm) hij
  ·obtain⟨xs,hxs⟩:=hx j t' e' h2
   exact(b j xs t' e' hxs h2).2.2.2
  ·obtain⟨xs,hxs⟩:=hx i t e h1
   exact(b i xs t e hxs h1).2.2.2.symm
  ·exact d i j t t' e e' hij h1 h2
theorem WD{ei:TypeId}{t l c2 by' m m' k kd kd'}(ho:o.op= .makeSlice t l c2)(hu:P.underlying t=some (.slice e1))(hi:DT P e1=some ([.slice none 0 0],1,by'))(hl:CL K l=some (.int kd m))(hc:CL K c2=some (.int kd' m'))(hmm:m'=m)
 (hk:ME m by'=some k):
 MG P N K o w (fun u w'=>∃g,u= .slice (some ⟨g,0,none⟩) k k∧g=w.heap.size∧w'.heap.size=w.heap.size+1∧AD w w'∧own2 c w' g (g+1) e1 ei (List.replicate k []) u (List.replicate k (.slice none 0 0))):=by
 subst hmm
 unfold DT at hi
 obtain⟨i,hi1,hi2⟩:=Option.bind_eq_some_iff.1 hi
 obtain⟨zv,hz1,hz2⟩:=Option.map_eq_some_iff.1 hi2
 simp only [Prod.mk.injEq]at hz2
 obtain⟨e3,e4,e5⟩:=hz2
 unfold ME at hk
 split at hk
 ·rename_i hm
  injection hk with hk
  have hr:=run_make (P:=P) w t e1 i zv hu hi1 hz1 kd kd' m' m' hm.1 (Int.le_refl _) (by rw [e5,Int.mul_comm];exact hm.2.1) hm.2.2
  intro a hK Kt Q hkk
  have hr2:(execOp a.eval o).run P w= .ok (.value (.slice (some ⟨w.heap.size,0,none⟩) m'.toNat m'.toNat)) (w.alloc (.cells (madeCells zv.cells (m'.toNat*i.size)) e1)):=by
   simp [execOp,ho,hK.ev hl,hK.ev hc,hr]
  unfold Oper.wp
  rw [hr2]
  have hzc:zv.cells= #[.slice none 0 0]:=by rw [←Array.toList_inj,e3]
  have hmc:(madeCells zv.cells (m'.toNat*i.size)).toList=List.replicate k (.slice none 0 0):=by
   rw [hzc,e4,hk,Nat.mul_one]
   apply List.ext_getElem
   ·simp [size_madeCells]
   ·intro j h1 h2
    simp [madeCells,Nat.mod_one]
  refine hkk _ _ ⟨w.heap.size,by rw [hk],rfl,by simp,AD.alloc _ _,⟨by simp,.inr ⟨w.heap.size,k,_,by rw [List.length_replicate,hk],Nat.le_refl _,heap_alloc_new w _,by simp,by simp only [maxLen];omega,?_,?_⟩⟩,?_,?_⟩
  ·rw [←Array.length_toList,hmc];simp
  ·rw [hmc];simp
  ·intro i xs u hx hu2
   have hxs:xs=[]:=by
    rw [List.getElem?_replicate]at hx;split at hx
    ·exact(Option.some.inj hx).symm
    ·cases hx
   have hus:u= .slice none 0 0:=by
    rw [List.getElem?_replicate]at hu2;split at hu2
    ·exact(Option.some.inj hu2).symm
    ·cases hu2
   subst hxs hus
   exact⟨AA.nil _ _ _ _ _,(fun q h=>by cases h),(fun g q _ h=>by cases h)⟩
  ·intro i j u u' _ hu2 _ g q hg
   have hus:u= .slice none 0 0:=by
    rw [List.getElem?_replicate]at hu2;split at hu2
    ·exact(Option.some.inj hu2).symm
    ·cases hu2
   subst hus;cases hg
 ·cases hk
end
end Go.Eng
namespace Go.Eng
open Go Go.RowKit
theorem own2.at1{α:Type}{c:Cd α}[DO c]{w:World}{B hi:Nat}{e1 e2:TypeId}{xss:List (List α)}{v:Value}{vs:List Value}{m:Int}{xs:List α}{g:Nat}{u:Value}(h:own2 c w B hi e1 e2 xss v vs)(hy:AG xss m=some xs)(hg:v.ownBlock=some g)
 (hcl:AR w g (0+m.toNat*(DI c).n) [u]):vs[m.toNat]? =some u:=by
 obtain⟨u',h1,h2⟩:=h.at hy hg rfl hcl
 simp at h1;rw [h1];exact h2
theorem Xj{α:Type}{xs:List α}{m:Int}{y:α}(h:AG xs m=some y):m.toNat<xs.length:=by
 obtain⟨h0,h1,_⟩:=EQ h;omega
end Go.Eng
namespace Go.Eng
open Go Go.RowKit
theorem yi2{P:Program}{N:Nat}{K:KL}{o:Oper}{α:Type}{c:Cd α}{w w0:World}{B hi:Nat}{e1 e2:TypeId}{xss:List (List α)}{v:Value}{vs:List Value}{n:Nat}{u0:Value}{xs:List α}{t:Nat}{k:IntKind}{m:Int}(h:Vg K o.op=some (t,v,k,m))(hu:P.underlying t=some (.slice e1))(hc:Ar P e1=some 1)(hh:Yh c w B hi e1 e2 xss v vs n u0)(hg:AG xss m=some xs):
 YE P N K o w0 (fun u=>∃g,u= .pointer (some ⟨g,0+m.toNat*(DI c).n,none⟩)∧v.ownBlock=some g):=by
 obtain⟨x,i,ho,hx,hi'⟩:=Tb h
 obtain⟨g0,g1,g2⟩:=EQ hg
 obtain⟨⟨hl,⟨rfl,hn⟩|⟨g,cap,cur,rfl,_⟩⟩,_⟩:=hh
 ·omega
 ·exact⟨_,Eh (sz:=(DI c).n) ho hu hc hx hi' g0 g1,g,rfl,rfl⟩
end Go.Eng
namespace Go.Eng
/-! ## Pointers that may be nil -/
def Sq{α β:Type}(o:Option α)(a:β)(f:α->β):β:=match o with
 |none=>a
 |some x=>f x
theorem tS{α β:Type}{o:Option α}{A:Option β}{f:α->Option β}{r:β}(h:o=none)(hF:Sq o A f=some r):A=some r:=by subst h;exact hF
theorem wP{α β:Type}{o:Option α}{x:α}{A:Option β}{f:α->Option β}{r:β}(h:o=some x)(hF:Sq o A f=some r):f x=some r:=by subst h;exact hF
def mU{α:Type}(o:Option α)(p:Prop)(f:α->Prop):Prop:=match o with
 |none=>p
 |some x=>f x
theorem yB{α:Type}{o:Option α}{p:Prop}{f:α->Prop}(h:o=none)(hF:mU o p f):p:=by subst h;exact hF
theorem xT{α:Type}{o:Option α}{x:α}{p:Prop}{f:α->Prop}(h:o=some x)(hF:mU o p f):f x:=by subst h;exact hF
end Go.Eng
namespace Go.Eng
theorem TH{B hi:Nat}{v:Go.Value}{Q:Nat->Prop}(h:∀k,SX B hi v k->Q k):∀k,SX B hi v k->Q k:=h
end Go.Eng
namespace Go.Eng
open Go Go.RowKit
/-! ## Slices of which nothing is told -/
end Go.Eng
namespace Go
@[reducible] def Value.i (x:Int):Value:=.int .i64 x
end Go
namespace Go.Eng
open Go Go.RowKit
/-! ## Cells whose numbers may turn: what is written into them is not told -/
inductive Of:Value->Value->Prop
 |refl (u:Value):Of u u
 |int (k:IntKind) (m n:Int):Of (.int k m) (.int k n)
 |bool (a b:Bool):Of (.bool a) (.bool b)
 |str (a b:ByteArray):Of (.string a) (.string b)
theorem Of.trans{a b c:Value}(h:Of a b)(k:Of b c):Of a c:=by
 cases h with
 |refl=>exact k
 |int kk m n=>cases k with
  |refl=>exact .int kk m n
  |int _ _ q=>exact .int kk m q
 |bool x y=>cases k with
  |refl=>exact .bool x y
  |bool _ q=>exact .bool x q
 |str x y=>cases k with
  |refl=>exact .str x y
  |str _ q=>exact .str x q
def Ok(us vs:List Value):Prop:=us.length=vs.length∧∀(j:Nat) (u v:Value),us[j]? =some u->vs[j]? =some v->Of u v
theorem Ok.refl(us:List Value):Ok us us:=⟨rfl,fun j u v h k=>by rw [h]at k;obtain rfl:=Option.some.inj k;exact .refl _⟩
structure Ou(p:Nat->Prop)(w w':World):Prop where
 but:CW p w w'
 cell:∀b off u,w.cell? ⟨b,off,none⟩=some u->∃u',w'.cell? ⟨b,off,none⟩=some u'∧Of u u'
 froz:∀b off,b<w.heap.size->w.frozen? ⟨b,off,none⟩=false->w'.frozen? ⟨b,off,none⟩=false
section
variable {p q:Nat -> Prop} {w a c:World}
theorem Ou.refl(p:Nat->Prop)(w:World):Ou p w w:=⟨CW.refl p w,fun _ _ u h=>⟨u,h,.refl _⟩,fun _ _ _ h=>h⟩
theorem Ou.ofBut(h:CW p w a)(hb:∀k,k<w.heap.size->a.heap[k]? =w.heap[k]?):Ou p w a:=
 ⟨h,fun b off u hu=>⟨u,by rw [World.cell?_of_block (w:=w) (hb b (World.block_lt_of_cell? _ _ hu))];exact hu,.refl _⟩,fun b off hl hf=>by rw [GK (hb b hl)];exact hf⟩
theorem Ou.then(h:Ou p w a)(k:Ou q a c)(hb:CW p w c):Ou p w c:=
 ⟨hb,fun b off u hu=>by
  obtain⟨u1,h1,h2⟩:=h.cell b off u hu
  obtain⟨u2,h3,h4⟩:=k.cell b off u1 h1
  exact⟨u2,h3,h2.trans h4⟩,fun b off hl hf=>k.froz b off (Nat.lt_of_lt_of_le hl h.but.size) (h.froz b off hl hf)⟩
theorem Ou.ext(h:Ou p w a)(he:AD a c):Ou p w c:=
 h.then (q:=fun _=>False) (Ou.ofBut ⟨he.os,he.tape,he.output,he.size,fun k hk _=>he.block k hk⟩ fun k hk=>he.block k hk) (h.but.ext he)
theorem Ou.sim(h:Ou p w a)(k:Ou q a c)(hq:∀k,q k->p k∨w.heap.size<=k):Ou p w c:=h.then k (h.but.but k.but hq)
theorem Ou.upd{b:Nat}(h:Ou p w a)(hu:El b a c)(hb:w.heap.size<=b):Ou p w c:=
 ⟨h.but.upd hu (.inr hb),fun d off u hd=>by
  obtain⟨u1,h1,h2⟩:=h.cell d off u hd
  have:=World.block_lt_of_cell? _ _ hd
  exact⟨u1,by rw [World.cell?_of_block (w:=a) (hu.block d (by show d≠b;have:d<w.heap.size:=this;omega))];exact h1,h2⟩,fun d off hl hf=>by
  rw [GK (hu.block d (by omega))];exact h.froz d off hl hf⟩
end
theorem AR.cons{w:World}{b off:Nat}{u:Value}{us:List Value}(h:AR w b off (u::us)):(w.cell? ⟨b,off,none⟩=some u∧w.frozen? ⟨b,off,none⟩=false)∧AR w b (off+1) us:=
 ⟨by have:=h 0 u rfl;rwa [Nat.add_zero]at this,fun j v hj=>by have:=h (j+1) v (by simpa using hj);rwa [show off+(j+1)=off+1+j by omega]at this⟩
theorem AR.mk{w:World}{b off:Nat}{u:Value}{us:List Value}(h0:w.cell? ⟨b,off,none⟩=some u∧w.frozen? ⟨b,off,none⟩=false)(h:AR w b (off+1) us):AR w b off (u::us):=fun j v hj=>by
 cases j with
 |zero=>obtain rfl:u=v:=by simpa using hj
        rw [Nat.add_zero];exact h0
 |succ j=>rw [show off+(j+1)=off+1+j by omega];exact h j v (by simpa using hj)
theorem AR.sim{p:Nat->Prop}{w w':World}(hs:Ou p w w'){b:Nat}:∀{us:List Value} {off:Nat},AR w b off us->∃us',Ok us us'∧AR w' b off us'
 |[],off,_=>⟨[],Ok.refl _,fun j u h=>by simp at h⟩
 |u::us,off,h=>by
  obtain⟨⟨h1,h2⟩,h3⟩:=h.cons
  obtain⟨us',⟨k1,k2⟩,k3⟩:=AR.sim hs h3
  obtain⟨u',h4,h5⟩:=hs.cell b off u h1
  refine⟨u'::us',⟨by simp [k1],fun j x y hx hy=>?_⟩,AR.mk ⟨h4,hs.froz b off (World.block_lt_of_cell? _ _ h1) h2⟩ k3⟩
  cases j with
  |zero=>obtain rfl:u=x:=by simpa using hx
         obtain rfl:u'=y:=by simpa using hy
         exact h5
  |succ j=>exact k2 j x y (by simpa using hx) (by simpa using hy)
/-! ## Codecs that do not tell numbers -/
class Sl{α:Type}(c:Cd α):Prop where
 sim:∀{p:Nat->Prop} {w w':World} {S:Nat->Prop} {x:α} {vs vs':List Value},c.rep w S x vs->Ou p w w'->Ok vs vs'->c.rep w' S x vs'
theorem Ok.one{u:Value}{vs:List Value}(h:Ok [u] vs):∃v,vs=[v]∧Of u v:=by
 obtain⟨v,rfl⟩:=List.length_eq_one_iff.1 h.1.symm
 exact⟨v,rfl,h.2 0 u v rfl rfl⟩
theorem Ok.app{us ts vs:List Value}(h:Ok (us++ts) vs):∃vs1 vs2,vs=vs1++vs2∧Ok us vs1∧Ok ts vs2:=by
 obtain⟨h1,h2⟩:=h
 rw [List.length_append]at h1
 refine⟨vs.take us.length,vs.drop us.length,(List.take_append_drop _ _).symm,⟨by simp;omega,fun j u v hu hv=>?_⟩,⟨by simp;omega,fun j u v hu hv=>?_⟩⟩
 ·have hj:=(List.getElem?_eq_some_iff.1 hu).1
  rw [List.getElem?_take,if_pos hj]at hv
  exact h2 j u v (by rw [List.getElem?_append_left hj];exact hu) hv
 ·rw [List.getElem?_drop]at hv
  exact h2 (us.length+j) u v (by rw [List.getElem?_append_right (by omega),Nat.add_sub_cancel_left];exact hu) hv
instance {α β:Type}(c:Cd α)(d:Cd β)[hc:Sl c][hd:Sl d]:Sl (BG c d):=⟨fun⟨us,ts,e,h1,h2⟩ hs h=>by
 subst e;obtain⟨vs1,vs2,rfl,k1,k2⟩:=h.app
 exact⟨vs1,vs2,rfl,hc.sim h1 hs k1,hd.sim h2 hs k2⟩⟩
instance {α β:Type}(f:β->α)(c:Cd α)[hc:Sl c]:Sl (Cl f c):=⟨fun h hs k=>hc.sim h hs k⟩
theorem AK.sim{α:Type}{c:Cd α}[hc:Sl c]{p:Nat->Prop}{w w':World}{S:Nat->Prop}{xs:List α}{v:Value}(h:AK c w S xs v)(hs:Ou p w w'):AK c w' S xs v:=by
 obtain⟨a,cap,h1,h2,h3,h4⟩:=h
 refine⟨a,cap,h1,h2,h3,fun hl=>?_⟩
 obtain⟨b,off,h5,h6,h8⟩:=h4 hl
 refine⟨b,off,h5,h6,fun i x hx=>?_⟩
 obtain⟨us,h9,h10⟩:=h8 i x hx
 obtain⟨us',k1,k2⟩:=h10.sim hs
 exact⟨us',hc.sim h9 hs k1,k2⟩
instance {α:Type}(c:Cd α)[Sl c]:Sl (DI c):=⟨fun⟨v,e,h⟩ hs k=>by
 subst e;obtain⟨v',rfl,k2⟩:=k.one
 obtain⟨a,cap,rfl,_⟩:=id h
 cases k2
 exact⟨_,rfl,h.sim hs⟩⟩
section
variable {P:Program} {N:Nat} {o:Oper} {K:KL} {w:World}
end
/-! ## Worlds, in fewer words -/
theorem nr{n:Nat}:n<=n:=Nat.le_refl n
end Go.Eng
namespace Go.Eng
open Go Go.RowKit
/-! ## Own slices of own slices: built by literals and appends, written by calls -/
def SB:Cd Value where
 n:=1
 rep:=fun _ _ x vs=>vs=[x]∧x.oneCell'=true
 len:=fun h=>by rw [h.1];rfl
 one:=fun h=>by rw [h.1];simp [h.2]
 mono:=fun h _ _=>h
instance:DO SB:=⟨fun h=>h⟩
theorem gN{w:World}{B:Nat}{S:Nat->Prop}{e:TypeId}{vs:List Value}{v:Value}(h:AA SB w B S e vs v):w.ownsRow B e 1 v vs.length vs:=by
 obtain⟨cs,h1,h2⟩:=h
 have hl:cs.length=vs.length:=by have:=h1.1;simpa [SB] using this
 have e1:cs=vs:=by
  apply List.ext_getElem?
  intro i
  by_cases hi:i<vs.length
  ·have h3:=(h2 i vs[i] (List.getElem?_eq_getElem hi)).1
   have h4:(Ax cs 1 i)[0]? =some vs[i]:=by rw [show Ax cs 1 i=[vs[i]]from h3];rfl
   rw [Bf (by omega)]at h4
   rw [List.getElem?_eq_getElem hi,←h4];congr 1;omega
  ·rw [List.getElem?_eq_none (by omega),List.getElem?_eq_none (by omega)]
 rw [e1]at h1;exact h1
section
variable {α:Type} {c:Cd α} [DO c] {w w':World} {B B1 B2 hi lo1 hi1 lo2 hi2:Nat} {S:Nat -> Prop} {e1 e2:TypeId} {xss:List (List α)} {xs ys:List α} {v u t:Value} {vs:List Value}
theorem own2.raw(h:own2 c w B hi e1 e2 xss v vs):AA SB w B (Iv 0 0) e1 vs v:=by
 have hl:vs.length=xss.length:=by have:=h.1.1;omega
 have h1:=h.1
 rw [←hl]at h1
 refine⟨vs,h1,fun i x hx=>⟨jQ hx,?_⟩⟩
 have hi:i<xss.length:=by have:=(List.getElem?_eq_some_iff.1 hx).1;omega
 exact(h.2.1 i _ x (List.getElem?_eq_getElem hi) hx).1.one
theorem own2.of(h:AA SB w B S e1 vs v)(hl:vs.length=xss.length)(hin:∀(i:Nat) (xs:List α) (u:Value),xss[i]? =some xs->vs[i]? =some u->AA c w B (Iv 0 0) e2 xs u∧Bd u B hi∧No v u)
 (hd:∀(i j:Nat) (u u':Value),i≠j->vs[i]? =some u->vs[j]? =some u'->No u u'):own2 c w B hi e1 e2 xss v vs:=by
 have h1:=gN h
 rw [hl]at h1
 exact⟨h1,hin,hd⟩
theorem own2.base{B':Nat}(h:own2 c w B hi e1 e2 xss v vs)(hB:B'<=B):own2 c w B' hi e1 e2 xss v vs:=by
 refine own2.of (AA.base h.raw hB) (by have:=h.1.1;omega) (fun i xs u hx hu=>?_) h.2.2
 obtain⟨p,q,r⟩:=h.2.1 i xs u hx hu
 exact⟨p.base hB,fun g hg=>by have:=q g hg;omega,r⟩
theorem own2.lit1{g:Nat}(h:AA SB w g S e1 [u] v)(h1:AA c w B1 (Iv 0 0) e2 xs u)(hb:Bd v g (g+1))(b1:Bd u lo1 hi1)(hB:B<=B1)(hg:B<=g)(hl:B<=lo1)(hh:hi1<=g):own2 c w B g e1 e2 [xs] v [u]:=by
 refine own2.of (AA.base h hg) rfl (fun i x t hx ht=>?_) (fun i j t t' hij ht ht'=>?_)
 ·match i with
  |0=>
   obtain rfl:xs=x:=Option.some.inj hx
   obtain rfl:u=t:=Option.some.inj ht
   exact⟨h1.base hB,fun q hq=>by have:=b1 q hq;omega,fun q q' hq hq'=>by have:=hb q hq;have:=b1 q' hq';omega⟩
  |i+1=>simp at hx
 ·match i,j with
  |0,0=>exact absurd rfl hij
  |0,j+1=>simp at ht'
  |i+1,_=>simp at ht
theorem own2.put{m:Int}{zs:List α}(h:own2 c w B hi e1 e2 xss v vs)(hy:AG xss m=some xs)(hu:vs[m.toNat]? =some u)(hb:CW (pO u) w w')(hle:hi<=w.heap.size)(ho:AA c w' B1 (Iv 0 0) e2 zs u)(hB:B<=B1):own2 c w' B hi e1 e2 (xss.set m.toNat zs) v vs:=by
 obtain⟨_,hbu,hvu⟩:=h.sub hy hu
 obtain⟨a,b,d⟩:=h
 refine⟨?_,fun i x t hx ht=>?_,d⟩
 ·rw [List.length_set]
  exact ownsRow.keep a (fun g hg=>hb.block g (a.lt g hg).2 (fun e=>hvu g g hg e rfl))
 ·rcases NV hx with ⟨rfl,rfl⟩|⟨hne,hx3⟩
  ·obtain rfl:u=t:=Option.some.inj (hu.symm.trans ht)
   exact⟨ho.base hB,hbu,hvu⟩
  ·obtain⟨p,q,r⟩:=b i x t hx3 ht
   exact⟨p.keep (fun g hg=>hb.block g (by have:=q g hg;omega) (fun e=>d m.toNat i u t hne hu ht g g e hg rfl)) (fun _ h=>h) (fun k h=>absurd h.2 (Nat.not_lt_zero k)),q,r⟩
end
theorem Ya{α β:Type}{xs ys zs:List α}{vs us:List β}{k:Nat}(h:Dm xs ys k=some zs)(h1:vs.length=xs.length)(h2:us.length=ys.length):Dm vs us k=some (vs++us)∧zs=xs++ys:=by
 unfold Dm at h ⊢
 rw [h1,h2]
 split at h
 ·rename_i hc
  rw [if_pos hc];exact⟨rfl,(Option.some.inj h).symm⟩
 ·cases h
section
variable {P:Program} {N:Nat} {K:KL} {o:Oper} {α:Type} {c:Cd α} [DO c] {w:World} {B hi B2 hi2:Nat} {e1 e2:TypeId} {xss yss zss:List (List α)} {v u:Value} {vs us:List Value}
theorem Qz{t x y zc sz by'}(ho:o.op= .call { callee:=.builtin .append,args:=#[x,y],argTypes:=#[t,t] })(hu:P.underlying t=some (.slice e1))(hi1:DT P e1=some (zc,sz,by'))(hsz:sz=1)(hzc:zc.length=sz)
 (hx:CL K x=some v) (hy:CL K y=some u) (h:own2 c w B hi e1 e2 xss v vs) (h2:own2 c w B2 hi2 e1 e2 yss u us) (hB:B<=w.heap.size) (hle:hi<=B2) (hBB:B<=B2) (hh2:hi2<=w.heap.size) (hh:hi<=w.heap.size) (hns:Ns v B2 hi2) (ha:Dm xss yss by'=some zss):
 MG P N K o w (fun v' w'=>own2 c w' B w'.heap.size e1 e2 zss v' (vs++us)∧BE w w' v v'):=by
 have hl1:vs.length=xss.length:=by have:=h.1.1;omega
 have hl2:us.length=yss.length:=by have:=h2.1.1;omega
 obtain⟨ha2,rfl⟩:=Ya ha hl1 hl2
 intro a hK Kt Q hk
 refine Ay (c:=SB) (S2:=Iv 0 w.heap.size) ho hu hi1 hsz hzc rfl hx hy h.raw hB (AA.slf h2.raw (Nat.zero_le _) (Nat.le_refl _)) ha2 a hK Kt Q ?_
 rintro v' w' ⟨h3,h4⟩
 have hsize:=h4.1.size
 have nv:∀q,q<w.heap.size->(∀g,v.ownBlock=some g->g≠q)->∀g,v'.ownBlock=some g->g≠q:=fun q hq hne g hg=>by
  rcases h4.2 g hg with h5|h5
  ·exact hne g h5
  ·omega
 have one:∀{B3 hi3:Nat} {xs:List α} {t:Value},hi3<=w.heap.size->B<=B3->(∀g q,v.ownBlock=some g->t.ownBlock=some q->g≠q)->AA c w B3 (Iv 0 0) e2 xs t->Bd t B3 hi3->AA c w' B (Iv 0 0) e2 xs t∧Bd t B w'.heap.size∧No v' t:=fun hh3 hB3 hne p q=>
  ⟨(p.keep (fun g hg=>h4.1.block g (by have:=q g hg;omega) (fun e=>hne g g e.symm hg rfl)) (fun _ h=>h) (fun k h=>absurd h.2 (Nat.not_lt_zero k))).base hB3,fun g hg=>by have:=q g hg;omega,fun g q2 hg hq=>nv q2 (by have:=q q2 hq;omega) (fun g2 hg2=>hne g2 q2 hg2 hq) g hg⟩
 have get:∀i t,(vs++us)[i]? =some t->(i<vs.length∧vs[i]? =some t)∨(vs.length<=i∧us[i-vs.length]? =some t):=fun i t h=>by
  by_cases hi:i<vs.length
  ·rw [List.getElem?_append_left hi]at h;exact .inl ⟨hi,h⟩
  ·rw [List.getElem?_append_right (by omega)]at h;exact .inr ⟨by omega,h⟩
 have lo:∀i t,vs[i]? =some t->Bd t B hi∧No v t:=fun i t ht=>by
  have hi:i<xss.length:=by have:=(List.getElem?_eq_some_iff.1 ht).1;omega
  exact(h.2.1 i _ t (List.getElem?_eq_getElem hi) ht).2
 have up:∀i t,us[i]? =some t->Bd t B2 hi2:=fun i t ht=>by
  have hi:i<yss.length:=by have:=(List.getElem?_eq_some_iff.1 ht).1;omega
  exact(h2.2.1 i _ t (List.getElem?_eq_getElem hi) ht).2.1
 refine hk _ _ ⟨own2.of h3 (by simp;omega) (fun i xs t hx2 ht=>?_) (fun i j t t' hij ht ht'=>?_),h4⟩
 ·rcases get i t ht with ⟨h5,h6⟩|⟨h5,h6⟩
  ·rw [List.getElem?_append_left (by omega)]at hx2
   obtain⟨p,q,r⟩:=h.2.1 i xs t hx2 h6
   exact one hh (Nat.le_refl _) r p q
  ·rw [List.getElem?_append_right (by omega)]at hx2
   obtain⟨p,q,r⟩:=h2.2.1 (i-vs.length) xs t (by rw [hl1];exact hx2) h6
   exact one hh2 hBB (fun g q2 hg hq=>by have:=hns g hg;have:=q q2 hq;omega) p q
 ·rcases get i t ht with ⟨h5,h6⟩|⟨h5,h6⟩<;>rcases get j t' ht' with ⟨h7,h8⟩|⟨h7,h8⟩
  ·exact h.2.2 i j t t' hij h6 h8
  ·intro g q hg hq;have:=(lo i t h6).1 g hg;have:=up _ t' h8 q hq;omega
  ·intro g q hg hq;have:=(lo j t' h8).1 q hq;have:=up _ t h6 g hg;omega
  ·exact h2.2.2 (i-vs.length) (j-vs.length) t t' (by omega) h6 h8
end
end Go.Eng
namespace Go.Eng
open Go Go.RowKit
/-! ## A slice that is handed over to grow -/
def Gr(w:World)(v v':Value):Prop:=∀g,v'.ownBlock=some g->v.ownBlock=some g∨w.heap.size<=g
theorem Gr.refl(w:World)(v:Value):Gr w v v:=fun g hg=>.inl hg
theorem Gr.grew{w w1 w2:World}{v v1 v2:Value}(h:Gr w v v1)(hw:w.heap.size<=w1.heap.size)(hg:BE w1 w2 v1 v2):Gr w v v2:=fun g hv=>by
 rcases hg.2 g hv with h1|h1
 ·exact h g h1
 ·exact .inr (by omega)
theorem BE.of{w w':World}{v v':Value}(h:CW (pO v) w w')(g:Gr w v v'):BE w w' v v':=
 ⟨⟨h.os,h.tape,h.output,h.size,fun k hk hne=>h.block k hk (fun e=>hne e.symm)⟩,g⟩
end Go.Eng
namespace Go.Eng
open Go Go.RowKit
/-! ## The end of an own slice, that may grow -/
def Fx{α:Type}(c:Cd α)(w:World)(B:Nat)(e:TypeId)(xs:List α)(v:Value):Prop:=
 ∃cs,cs.length=xs.length*c.n∧(∀i x,xs[i]? =some x->c.rep w (Iv 0 0) x (Ax cs c.n i))∧
  (v= .slice none 0 0∧xs.length=0∨∃g off cap cur,v= .slice (some ⟨g,off,none⟩) xs.length cap∧B<=g∧w.heap[g]? =some (.cells cur e (0,0))∧xs.length<=cap∧cap<=maxLen∧off+cap*c.n<=cur.size∧(cur.toList.drop off).take (xs.length*c.n)=cs)
section
variable {α:Type} {c:Cd α} {w w':World} {B:Nat} {e:TypeId} {xs zs:List α} {v u:Value}
theorem Fx.of(h:AA c w B (Iv 0 0) e xs v):Fx c w B e xs v:=by
 obtain⟨cs,⟨hl,h1⟩,h3⟩:=h
 refine⟨cs,hl,h3,?_⟩
 rcases h1 with h1|⟨g,cap,cur,rfl,a1,a2,a3,a4,a5,a6⟩
 ·exact .inl h1
 ·exact .inr ⟨g,0,cap,cur,rfl,a1,a2,a3,a4,by omega,by simpa using a6⟩
theorem Fx.blk(h:Fx c w B e xs v):Bd v B w.heap.size:=by
 obtain⟨cs,_,_,⟨rfl,_⟩|⟨g,off,cap,cur,rfl,a1,a2,_⟩⟩:=h
 ·intro g hg;cases hg
 ·intro q hq
  simp [Value.ownBlock]at hq;subst hq
  exact⟨a1,(Array.getElem?_eq_some_iff.1 a2).1⟩
theorem Fx.base{B':Nat}(h:Fx c w B e xs v)(hB:B'<=B):Fx c w B' e xs v:=by
 obtain⟨cs,h1,h2,h3⟩:=h
 refine⟨cs,h1,h2,?_⟩
 rcases h3 with h3|⟨g,off,cap,cur,a0,a1,rest⟩
 ·exact .inl h3
 ·exact .inr ⟨g,off,cap,cur,a0,by omega,rest⟩
theorem Fx.keep[DO c](h:Fx c w B e xs v)(hg:∀g,v.ownBlock=some g->w'.heap[g]? =w.heap[g]?):Fx c w' B e xs v:=by
 obtain⟨cs,h1,h2,h3⟩:=h
 refine⟨cs,h1,fun i x hx=>DO.any (h2 i x hx),?_⟩
 rcases h3 with h3|⟨g,off,cap,cur,rfl,a1,a2,rest⟩
 ·exact .inl h3
 ·exact .inr ⟨g,off,cap,cur,rfl,a1,(hg g rfl).trans a2,rest⟩
theorem Fx.ext[DO c](h:Fx c w B e xs v)(he:AD w w'):Fx c w' B e xs v:=h.keep (fun g hg=>he.block g (h.blk g hg).2)
theorem Fx.upd[DO c]{b:Nat}(h:Fx c w B e xs v)(hu:El b w w')(hne:Nb v b):Fx c w' B e xs v:=h.keep (fun g hg=>hu.block g (hne g hg))
theorem Fx.butF[DO c]{p:Nat->Prop}(h:Fx c w B e xs v)(hb:CW p w w')(hne:∀k,p k->∀g,v.ownBlock=some g->k≠g):Fx c w' B e xs v:=h.keep (fun g hg=>hb.block g (h.blk g hg).2 (fun e=>hne g e g hg rfl))
theorem Fx.sl[DO c]{S:Nat->Prop}(h:Fx c w B e xs v)(hb:∀g,v.ownBlock=some g->S g):AK c w S xs v:=by
 obtain⟨cs,hl,h3,⟨rfl,hn⟩|⟨g,off,cap,cur,rfl,_,hh,h5,h6,h7,h8⟩⟩:=h
 ·have:xs=[]:=List.eq_nil_of_length_eq_zero hn
  subst this;exact AK.nil _ _ _
 ·refine⟨some ⟨g,off,none⟩,cap,rfl,⟨h5,fun h=>by cases h⟩,by simpa [maxLen] using h6,fun hpos=>⟨g,off,rfl,hb g rfl,fun i x hx=>⟨_,DO.any (h3 i x hx),fun j u hu=>?_⟩⟩⟩
  have hjn:j<c.n:=by
   have:=(List.getElem?_eq_some_iff.1 hu).1
   simp [Ax]at this;omega
  have hi:i<xs.length:=(List.getElem?_eq_some_iff.1 hx).1
  rw [Bf hjn,←h8,List.getElem?_take]at hu
  split at hu
  ·rw [List.getElem?_drop]at hu
   have e1:off+i*c.n+j=off+(i*c.n+j):=by omega
   rw [e1]
   refine⟨?_,by simp [World.frozen?,hh]⟩
   have hu2:cur[off+(i*c.n+j)]? =some u:=by simpa using hu
   rw [cell_of_row w g _ cur e (0,0) hh];exact hu2
  ·cases hu
theorem Fx.slf[DO c]{lo hi:Nat}(h:Fx c w B e xs v)(h1:lo<=B)(h2:w.heap.size<=hi):AK c w (Iv lo hi) xs v:=h.sl (fun g hg=>by have:=h.blk g hg;exact⟨by omega,by omega⟩)
section
variable {P:Program} {N:Nat} {K:KL} {o:Oper} {S:Nat -> Prop}
variable {ys:List α}
end
end
end Go.Eng
namespace Go.Eng
open Go Go.RowKit
/-! ## Short words for the plain texts -/
theorem Ai{α β:Type}{a:α}{f:α->Option β}:Option.bind (some a) f=f a:=rfl
theorem cT{α:Type}{x y:α}:(bif true then x else y)=x:=rfl
theorem cF{α:Type}{x y:α}:(bif false then x else y)=y:=rfl
theorem wT(i:Nat)(h:i<4611686018427387904:=by omega):IntKind.wrap IntKind.i64 ((i:Int)+1)=((i+1:Nat):Int):=jH h
theorem BK{α:Type}{a r:α}(h:some a=some r):r=a:=(Option.some.inj h).symm
theorem bft(b:Bool):b=true∨b=false:=Bool.eq_false_or_eq_true b
end Go.Eng
namespace Go.Eng
open Go Go.RowKit
/-! ## Parts of an own slice: its beginning, its end, and clear -/
section
variable {α:Type} {c:Cd α} {w w':World} {B:Nat} {S:Nat -> Prop} {e:TypeId} {xs zs:List α} {v u:Value}
theorem Gr.cut{w:World}{v v':Value}{m:Nat}(h:Gr w v v'):Gr w v (oK v' m):=fun g hg=>h g (by rwa [aK]at hg)
section
variable {P:Program} {N:Nat} {K:KL} {o:Oper}
end
end
end Go.Eng
namespace Go.Eng
open Go Go.RowKit
/-! ## Numbers that turn within what is only read: what is read then is told by its shape -/
inductive QU:Value->Value->Prop
 |refl (u:Value):QU u u
 |int (k:IntKind) (m n:Int):QU (.int k m) (.int k n)
theorem QU.trans{a b c:Value}(h:QU a b)(k:QU b c):QU a c:=by
 cases h with
 |refl=>exact k
 |int kk m n=>cases k with
  |refl=>exact .int kk m n
  |int _ _ q=>exact .int kk m q
def VS(us vs:List Value):Prop:=us.length=vs.length∧∀(j:Nat) (u v:Value),us[j]? =some u->vs[j]? =some v->QU u v
theorem VS.refl(us:List Value):VS us us:=⟨rfl,fun j u v h k=>by rw [h]at k;obtain rfl:=Option.some.inj k;exact .refl _⟩
theorem VS.one{u:Value}{vs:List Value}(h:VS [u] vs):∃v,vs=[v]∧QU u v:=by
 obtain⟨v,rfl⟩:=List.length_eq_one_iff.1 h.1.symm
 exact⟨v,rfl,h.2 0 u v rfl rfl⟩
theorem VS.app{us ts vs:List Value}(h:VS (us++ts) vs):∃vs1 vs2,vs=vs1++vs2∧VS us vs1∧VS ts vs2:=by
 obtain⟨h1,h2⟩:=h
 rw [List.length_append]at h1
 refine⟨vs.take us.length,vs.drop us.length,(List.take_append_drop _ _).symm,⟨by simp;omega,fun j u v hu hv=>?_⟩,⟨by simp;omega,fun j u v hu hv=>?_⟩⟩
 ·have hj:=(List.getElem?_eq_some_iff.1 hu).1
  rw [List.getElem?_take,if_pos hj]at hv
  exact h2 j u v (by rw [List.getElem?_append_left hj];exact hu) hv
 ·rw [List.getElem?_drop]at hv
  exact h2 (us.length+j) u v (by rw [List.getElem?_append_right (by omega),Nat.add_sub_cancel_left];exact hu) hv
structure jL(b:Nat)(w w':World):Prop where
 upd:El b w w'
 cell:∀d off u,w.cell? ⟨d,off,none⟩=some u->∃u',w'.cell? ⟨d,off,none⟩=some u'∧QU u u'
 froz:∀d off,d<w.heap.size->w.frozen? ⟨d,off,none⟩=false->w'.frozen? ⟨d,off,none⟩=false
 row:∀cur ty fz,w.heap[b]? =some (.cells cur ty fz)->∃cur',w'.heap[b]? =some (.cells cur' ty fz)∧VS cur.toList cur'.toList
theorem AR.siB{c:Nat}{w w':World}(hs:jL c w w'){b:Nat}:∀{us:List Value} {off:Nat},AR w b off us->∃us',VS us us'∧AR w' b off us'
 |[],off,_=>⟨[],VS.refl _,fun j u h=>by simp at h⟩
 |u::us,off,h=>by
  obtain⟨⟨h1,h2⟩,h3⟩:=h.cons
  obtain⟨us',⟨k1,k2⟩,k3⟩:=AR.siB hs h3
  obtain⟨u',h4,h5⟩:=hs.cell b off u h1
  refine⟨u'::us',⟨by simp [k1],fun j x y hx hy=>?_⟩,AR.mk ⟨h4,hs.froz b off (World.block_lt_of_cell? _ _ h1) h2⟩ k3⟩
  cases j with
  |zero=>obtain rfl:u=x:=by simpa using hx
         obtain rfl:u'=y:=by simpa using hy
         exact h5
  |succ j=>exact k2 j x y (by simpa using hx) (by simpa using hy)
def UD{α:Type}(r:α->α->Prop)(xs ys:List α):Prop:=ys.length=xs.length∧∀(i:Nat) (x y:α),xs[i]? =some x->ys[i]? =some y->r x y
theorem UD.pick{α:Type}{r:Nat->α->α->Prop}:∀{xs:List α} {s:Nat},(∀(i:Nat) (x:α),xs[i]? =some x->∃y,r (s+i) x y)->∃ys:List α,ys.length=xs.length∧∀(i:Nat) (x y:α),xs[i]? =some x->ys[i]? =some y->r (s+i) x y
 |[],s,_=>⟨[],rfl,fun i x y h=>by simp at h⟩
 |x::xs,s,h=>by
  obtain⟨y,hy⟩:=h 0 x rfl
  obtain⟨ys,h1,h2⟩:=UD.pick (r:=r) (xs:=xs) (s:=s+1) fun i z hz=>by
   have:=h (i+1) z (by simpa using hz)
   rwa [show s+(i+1)=s+1+i by omega]at this
  refine⟨y::ys,by simp [h1],fun i a b ha hb=>?_⟩
  cases i with
  |zero=>obtain rfl:x=a:=by simpa using ha
         obtain rfl:y=b:=by simpa using hb
         exact hy
  |succ i=>have:=h2 i a b (by simpa using ha) (by simpa using hb)
           rwa [show s+1+i=s+(i+1) by omega]at this
class Wv{α:Type}(c:Cd α)(r:outParam (α->α->Prop)):Prop where
 sim:∀{b:Nat} {w w':World} {S:Nat->Prop} {x:α} {vs vs':List Value},c.rep w S x vs->jL b w w'->VS vs vs'->∃x',r x x'∧c.rep w' S x' vs'
instance (k:IntKind):Wv (AH k) (fun _ _=>True):=⟨fun e _ h=>by
 obtain rfl:=e;obtain⟨v,rfl,h2⟩:=h.one
 cases h2 with
 |refl=>exact⟨_,trivial,rfl⟩
 |int _ _ n=>exact⟨n,trivial,rfl⟩⟩
instance:Wv Aq Eq:=⟨fun e _ h=>by
 obtain rfl:=e;obtain⟨v,rfl,h2⟩:=h.one
 cases h2;exact⟨_,rfl,rfl⟩⟩
instance:Wv At Eq:=⟨fun e _ h=>by
 obtain rfl:=e;obtain⟨v,rfl,h2⟩:=h.one
 cases h2;exact⟨_,rfl,rfl⟩⟩
instance {α β:Type}(c:Cd α)(d:Cd β)(r:α->α->Prop)(q:β->β->Prop)[hc:Wv c r][hd:Wv d q]:Wv (BG c d) (fun x y=>r x.1 y.1∧q x.2 y.2):=⟨fun⟨us,ts,e,h1,h2⟩ hs h=>by
 subst e;obtain⟨vs1,vs2,rfl,k1,k2⟩:=h.app
 obtain⟨x,a1,a2⟩:=hc.sim h1 hs k1
 obtain⟨y,b1,b2⟩:=hd.sim h2 hs k2
 exact⟨(x,y),⟨a1,b1⟩,vs1,vs2,rfl,a2,b2⟩⟩
theorem Wv.map{α β:Type}{c:Cd α}{r:α->α->Prop}[hc:Wv c r](f:β->α)(g:α->β)(h:∀y,f (g y)=y):Wv (Cl f c) (fun x y=>r (f x) (f y)):=⟨fun k hs hv=>by
 obtain⟨y,a1,a2⟩:=hc.sim k hs hv
 exact⟨g y,by show r _ (f (g y));rw [h];exact a1,by show c.rep _ _ (f (g y)) _;rw [h];exact a2⟩⟩
section
variable {α:Type} {c:Cd α} {r:α -> α -> Prop} [hc:Wv c r] {b:Nat} {w w':World} {S:Nat -> Prop} {xs:List α} {v:Value}
theorem AK.siB(h:AK c w S xs v)(hs:jL b w w'):∃ys,UD r xs ys∧AK c w' S ys v:=by
 obtain⟨a,cap,h1,h2,h3,h4⟩:=h
 by_cases hl:0<xs.length
 ·obtain⟨d,off,h5,h6,h8⟩:=h4 hl
  obtain⟨ys,k1,k2⟩:=UD.pick (r:=fun i x y=>r x y∧∃us,c.rep w' S y us∧AR w' d (off+i*c.n) us) (xs:=xs) (s:=0) fun i x hx=>by
   obtain⟨us,h9,h10⟩:=h8 i x hx
   obtain⟨us',q1,q2⟩:=h10.siB hs
   obtain⟨y,p1,p2⟩:=hc.sim h9 hs q1
   exact⟨y,p1,us',p2,by rw [Nat.zero_add];exact q2⟩
  have get:∀i x,xs[i]? =some x->∃y,ys[i]? =some y:=fun i x hx=>⟨_,List.getElem?_eq_getElem (by have:=(List.getElem?_eq_some_iff.1 hx).1;omega)⟩
  refine⟨ys,⟨k1,fun i x y hx hy=>(k2 i x y hx hy).1⟩,a,cap,by rw [k1];exact h1,by rw [k1];exact h2,h3,fun _=>⟨d,off,h5,h6,fun i y hy=>?_⟩⟩
  have hx:xs[i]? =some (xs[i]'(by have:=(List.getElem?_eq_some_iff.1 hy).1;omega)):=List.getElem?_eq_getElem _
  have:=(k2 i _ y hx hy).2
  rwa [Nat.zero_add]at this
 ·obtain rfl:xs=[]:=List.eq_nil_of_length_eq_zero (by omega)
  exact⟨[],⟨rfl,fun i x y h=>by simp at h⟩,a,cap,h1,h2,h3,fun h=>absurd h hl⟩
theorem AA.siB{B:Nat}{e:TypeId}(h:AA c w B S e xs v)(hs:jL b w w')(hb:∀g,v.ownBlock=some g->g≠b):∃ys,UD r xs ys∧AA c w' B S e ys v:=by
 obtain⟨cs,h1,h2⟩:=h
 obtain⟨ys,k1,k2⟩:=UD.pick (r:=fun i x y=>r x y∧c.rep w' S y (Ax cs c.n i)) (xs:=xs) (s:=0) fun i x hx=>by
  obtain⟨y,p1,p2⟩:=hc.sim (h2 i x hx) hs (VS.refl _)
  exact⟨y,p1,by rw [Nat.zero_add];exact p2⟩
 refine⟨ys,⟨k1,fun i x y hx hy=>(k2 i x y hx hy).1⟩,cs,by rw [k1];exact ownsRow.keep h1 (fun g hg=>hs.upd.block g (hb g hg)),fun i y hy=>?_⟩
 have hx:xs[i]? =some (xs[i]'(by have:=(List.getElem?_eq_some_iff.1 hy).1;omega)):=List.getElem?_eq_getElem _
 have:=(k2 i _ y hx hy).2
 rwa [Nat.zero_add]at this
end
instance {α:Type}(c:Cd α)(r:α->α->Prop)[Wv c r]:Wv (DI c) (UD r):=⟨fun⟨v,e,h⟩ hs k=>by
 subst e;obtain⟨v',rfl,k2⟩:=k.one
 obtain⟨a,cap,rfl,_⟩:=id h
 obtain⟨ys,p1,p2⟩:=h.siB hs
 cases k2
 exact⟨ys,p1,_,rfl,p2⟩⟩
section
variable {P:Program} {N:Nat} {o:Oper} {K:KL} {w:World}
end
/-! ## What a slice's elements lead to, but for the blocks of one kind -/
def Pd(w:World)(k:Nat):Option TypeId:=match w.heap[k]? with
 |some (.cells _ e _)=>some e
 |_=>none
def RT(w:World)(B hi:Nat)(v:Value)(tx:TypeId):Nat->Prop:=fun k=>SX B hi v k∧Pd w k≠some tx
def Gk{α:Type}(c:Cd α)(w:World)(B hi:Nat)(e:TypeId)(xs:List α)(v:Value)(tx:TypeId):Prop:=AA c w B (RT w B hi v tx) e xs v
theorem Pd.same{w w':World}{k:Nat}(h:w'.heap[k]? =w.heap[k]?):Pd w' k=Pd w k:=by unfold Pd;rw [h]
section
variable {α:Type} {c:Cd α} {w w':World} {B hi:Nat} {e tx:TypeId} {xs:List α} {v:Value}
theorem Gk.keep(h:Gk c w B hi e xs v tx)(h1:∀g,v.ownBlock=some g->w'.heap[g]? =w.heap[g]?)(h2:∀k,RT w B hi v tx k->w'.heap[k]? =w.heap[k]?):Gk c w' B hi e xs v tx:=
 AA.keep h h1 (fun k q=>⟨q.1,by rw [Pd.same (h2 k q)];exact q.2⟩) h2
theorem Gk.ext(h:Gk c w B hi e xs v tx)(he:AD w w')(hle:hi<=w.heap.size):Gk c w' B hi e xs v tx:=
 h.keep (fun g hg=>he.block g (AA.blk h g hg).2) (fun k q=>he.block k (by have:=q.1.2.1;omega))
theorem Gk.upd{b:Nat}(h:Gk c w B hi e xs v tx)(hu:El b w w')(hne:∀g,v.ownBlock=some g->g≠b)(hb:b<B∨hi<=b:=by omega):Gk c w' B hi e xs v tx:=
 h.keep (fun g hg=>hu.block g (hne g hg)) (fun k q=>hu.block k (by have:=q.1.1;have:=q.1.2.1;omega))
theorem Gk.but{p:Nat->Prop}(h:Gk c w B hi e xs v tx)(hb:CW p w w')(hne:∀k,p k->∀g,v.ownBlock=some g->k≠g)(hle:hi<=w.heap.size)(hs:∀k,p k->k<B∨hi<=k):Gk c w' B hi e xs v tx:=
 h.keep (fun g hg=>hb.block g (AA.blk h g hg).2 (fun e=>hne g e g hg rfl)) (fun k q=>hb.block k (by have:=q.1.2.1;omega) (fun e=>by have:=hs k e;have:=q.1.1;have:=q.1.2.1;omega))
theorem Gk.wide{hi':Nat}(h:Gk c w B hi e xs v tx)(hle:hi<=hi':=by omega):Gk c w B hi' e xs v tx:=
 AA.keep h (fun _ _=>rfl) (fun k q=>⟨⟨q.1.1,by have:=q.1.2.1;omega,q.1.2.2⟩,q.2⟩) (fun _ _=>rfl)
theorem Gk.base{B':Nat}(h:Gk c w B hi e xs v tx)(hB:B'<=B):Gk c w B' hi e xs v tx:=
 AA.keep (AA.base h hB) (fun _ _=>rfl) (fun k q=>⟨⟨by have:=q.1.1;omega,q.1.2⟩,q.2⟩) (fun _ _=>rfl)
theorem Gk.nil{S:Nat->Prop}(h:AA c w B S e [] v):Gk c w B hi e [] v tx:=by
 obtain⟨cs,h1,_⟩:=h
 exact⟨cs,h1,fun i x hx=>by simp at hx⟩
end
section
variable {P:Program} {N:Nat} {K:KL} {o:Oper} {α:Type} {c:Cd α} {w:World} {B hi B2 hi2:Nat} {e tx:TypeId} {xs ys zs:List α} {v u:Value}
end
/-! ## Functions that are handed what is to be done with their result: whatever it be -/
end Go.Eng
namespace Go.Eng
open Go Go.RowKit
/-! ## Facts that move on together -/
class Mv(w w':World)(A:Prop)(A':outParam Prop)(S:outParam Prop):Prop where
 mv:A->S->AD w w'->A'
class Mu(b:Nat)(w w':World)(A:Prop)(A':outParam Prop)(S:outParam Prop):Prop where
 mv:A->S->El b w w'->A'
section
variable {w w':World} {b d lo hi B:Nat} {us:List Value} {t e e1 e2 tx:TypeId} {α:Type} {c:Cd α} {xs:List α} {xss:List (List α)} {v:Value} {vs:List Value}
instance:Mv w w' (Ae w d us t) (Ae w' d us t) True:=⟨fun h _ k=>h.ext k⟩
instance [DO c]:Mv w w' (AA c w B (Iv 0 0) e xs v) (AA c w' B (Iv 0 0) e xs v) True:=⟨fun h _ k=>AA.ext h k⟩
instance:Mv w w' (AK c w (Iv lo hi) xs v) (AK c w' (Iv lo hi) xs v) (hi<=w.heap.size):=⟨fun h s k=>h.old k s⟩
instance:Mv w w' (AA c w B (SX B hi v) e xs v) (AA c w' B (SX B hi v) e xs v) (hi<=w.heap.size):=⟨fun h s k=>AA.extN h k s⟩
instance:Mv w w' (Gk c w B hi e xs v tx) (Gk c w' B hi e xs v tx) (hi<=w.heap.size):=⟨fun h s k=>Gk.ext h k s⟩
instance [DO c]:Mv w w' (own2 c w B hi e1 e2 xss v vs) (own2 c w' B hi e1 e2 xss v vs) (hi<=w.heap.size):=⟨fun h s k=>own2.ext h k s⟩
instance:Mu b w w' (Ae w d us t) (Ae w' d us t) (d≠b):=⟨fun h s k=>h.upd k s⟩
instance:Mu b w w' (AK c w (Iv lo hi) xs v) (AK c w' (Iv lo hi) xs v) (b<lo∨hi<=b):=⟨fun h s k=>AK.upd h k s⟩
end
theorem Be{w w':World}{P1 Q1 S1 P2 Q2 S2:Prop}[i1:Mv w w' P1 Q1 S1][i2:Mv w w' P2 Q2 S2](h1:P1)(h2:P2)(k:AD w w')(s1:S1:=by and_intros<;>first|trivial|omega)(s2:S2:=by and_intros<;>first|trivial|omega):Q1∧Q2:=⟨i1.mv h1 s1 k,i2.mv h2 s2 k⟩
theorem Cc{w w':World}{P1 Q1 S1 P2 Q2 S2 P3 Q3 S3:Prop}[i1:Mv w w' P1 Q1 S1][i2:Mv w w' P2 Q2 S2][i3:Mv w w' P3 Q3 S3](h1:P1)(h2:P2)(h3:P3)(k:AD w w')(s1:S1:=by and_intros<;>first|trivial|omega)(s2:S2:=by and_intros<;>first|trivial|omega)(s3:S3:=by and_intros<;>first|trivial|omega):Q1∧Q2∧Q3:=⟨i1.mv h1 s1 k,i2.mv h2 s2 k,i3.mv h3 s3 k⟩
theorem DC{w w':World}{P1 Q1 S1 P2 Q2 S2 P3 Q3 S3 P4 Q4 S4:Prop}[i1:Mv w w' P1 Q1 S1][i2:Mv w w' P2 Q2 S2][i3:Mv w w' P3 Q3 S3][i4:Mv w w' P4 Q4 S4](h1:P1)(h2:P2)(h3:P3)(h4:P4)(k:AD w w')(s1:S1:=by and_intros<;>first|trivial|omega)(s2:S2:=by and_intros<;>first|trivial|omega)(s3:S3:=by and_intros<;>first|trivial|omega)(s4:S4:=by and_intros<;>first|trivial|omega):Q1∧Q2∧Q3∧Q4:=⟨i1.mv h1 s1 k,i2.mv h2 s2 k,i3.mv h3 s3 k,i4.mv h4 s4 k⟩
theorem GQ{w w':World}{P1 Q1 S1 P2 Q2 S2 P3 Q3 S3 P4 Q4 S4 P5 Q5 S5:Prop}[i1:Mv w w' P1 Q1 S1][i2:Mv w w' P2 Q2 S2][i3:Mv w w' P3 Q3 S3][i4:Mv w w' P4 Q4 S4][i5:Mv w w' P5 Q5 S5](h1:P1)(h2:P2)(h3:P3)(h4:P4)(h5:P5)(k:AD w w')(s1:S1:=by and_intros<;>first|trivial|omega)(s2:S2:=by and_intros<;>first|trivial|omega)(s3:S3:=by and_intros<;>first|trivial|omega)(s4:S4:=by and_intros<;>first|trivial|omega)(s5:S5:=by and_intros<;>first|trivial|omega):Q1∧Q2∧Q3∧Q4∧Q5:=⟨i1.mv h1 s1 k,i2.mv h2 s2 k,i3.mv h3 s3 k,i4.mv h4 s4 k,i5.mv h5 s5 k⟩
theorem IK{w w':World}{P1 Q1 S1 P2 Q2 S2 P3 Q3 S3 P4 Q4 S4 P5 Q5 S5 P6 Q6 S6:Prop}[i1:Mv w w' P1 Q1 S1][i2:Mv w w' P2 Q2 S2][i3:Mv w w' P3 Q3 S3][i4:Mv w w' P4 Q4 S4][i5:Mv w w' P5 Q5 S5][i6:Mv w w' P6 Q6 S6](h1:P1)(h2:P2)(h3:P3)(h4:P4)(h5:P5)(h6:P6)(k:AD w w')(s1:S1:=by and_intros<;>first|trivial|omega)(s2:S2:=by and_intros<;>first|trivial|omega)(s3:S3:=by and_intros<;>first|trivial|omega)(s4:S4:=by and_intros<;>first|trivial|omega)(s5:S5:=by and_intros<;>first|trivial|omega)(s6:S6:=by and_intros<;>first|trivial|omega):Q1∧Q2∧Q3∧Q4∧Q5∧Q6:=⟨i1.mv h1 s1 k,i2.mv h2 s2 k,i3.mv h3 s3 k,i4.mv h4 s4 k,i5.mv h5 s5 k,i6.mv h6 s6 k⟩
theorem JR{w w':World}{P1 Q1 S1 P2 Q2 S2 P3 Q3 S3 P4 Q4 S4 P5 Q5 S5 P6 Q6 S6 P7 Q7 S7:Prop}[i1:Mv w w' P1 Q1 S1][i2:Mv w w' P2 Q2 S2][i3:Mv w w' P3 Q3 S3][i4:Mv w w' P4 Q4 S4][i5:Mv w w' P5 Q5 S5][i6:Mv w w' P6 Q6 S6][i7:Mv w w' P7 Q7 S7](h1:P1)(h2:P2)(h3:P3)(h4:P4)(h5:P5)(h6:P6)(h7:P7)(k:AD w w')(s1:S1:=by and_intros<;>first|trivial|omega)(s2:S2:=by and_intros<;>first|trivial|omega)(s3:S3:=by and_intros<;>first|trivial|omega)(s4:S4:=by and_intros<;>first|trivial|omega)(s5:S5:=by and_intros<;>first|trivial|omega)(s6:S6:=by and_intros<;>first|trivial|omega)(s7:S7:=by and_intros<;>first|trivial|omega):Q1∧Q2∧Q3∧Q4∧Q5∧Q6∧Q7:=⟨i1.mv h1 s1 k,i2.mv h2 s2 k,i3.mv h3 s3 k,i4.mv h4 s4 k,i5.mv h5 s5 k,i6.mv h6 s6 k,i7.mv h7 s7 k⟩
theorem CN{w w':World}{P1 Q1 S1 P2 Q2 S2 P3 Q3 S3 P4 Q4 S4 P5 Q5 S5 P6 Q6 S6 P7 Q7 S7 P8 Q8 S8:Prop}[i1:Mv w w' P1 Q1 S1][i2:Mv w w' P2 Q2 S2][i3:Mv w w' P3 Q3 S3][i4:Mv w w' P4 Q4 S4][i5:Mv w w' P5 Q5 S5][i6:Mv w w' P6 Q6 S6][i7:Mv w w' P7 Q7 S7][i8:Mv w w' P8 Q8 S8](h1:P1)(h2:P2)(h3:P3)(h4:P4)(h5:P5)(h6:P6)(h7:P7)(h8:P8)(k:AD w w')(s1:S1:=by and_intros<;>first|trivial|omega)(s2:S2:=by and_intros<;>first|trivial|omega)(s3:S3:=by and_intros<;>first|trivial|omega)(s4:S4:=by and_intros<;>first|trivial|omega)(s5:S5:=by and_intros<;>first|trivial|omega)(s6:S6:=by and_intros<;>first|trivial|omega)(s7:S7:=by and_intros<;>first|trivial|omega)(s8:S8:=by and_intros<;>first|trivial|omega):Q1∧Q2∧Q3∧Q4∧Q5∧Q6∧Q7∧Q8:=⟨i1.mv h1 s1 k,i2.mv h2 s2 k,i3.mv h3 s3 k,i4.mv h4 s4 k,i5.mv h5 s5 k,i6.mv h6 s6 k,i7.mv h7 s7 k,i8.mv h8 s8 k⟩
theorem Hn{w w':World}{b:Nat}{P1 Q1 S1 P2 Q2 S2:Prop}[i1:Mu b w w' P1 Q1 S1][i2:Mu b w w' P2 Q2 S2](h1:P1)(h2:P2)(k:El b w w')(s1:S1:=by and_intros<;>first|trivial|omega)(s2:S2:=by and_intros<;>first|trivial|omega):Q1∧Q2:=⟨i1.mv h1 s1 k,i2.mv h2 s2 k⟩
theorem Ee{w w':World}{b:Nat}{P1 Q1 S1 P2 Q2 S2 P3 Q3 S3:Prop}[i1:Mu b w w' P1 Q1 S1][i2:Mu b w w' P2 Q2 S2][i3:Mu b w w' P3 Q3 S3](h1:P1)(h2:P2)(h3:P3)(k:El b w w')(s1:S1:=by and_intros<;>first|trivial|omega)(s2:S2:=by and_intros<;>first|trivial|omega)(s3:S3:=by and_intros<;>first|trivial|omega):Q1∧Q2∧Q3:=⟨i1.mv h1 s1 k,i2.mv h2 s2 k,i3.mv h3 s3 k⟩
theorem NO{w w':World}{b:Nat}{P1 Q1 S1 P2 Q2 S2 P3 Q3 S3 P4 Q4 S4:Prop}[i1:Mu b w w' P1 Q1 S1][i2:Mu b w w' P2 Q2 S2][i3:Mu b w w' P3 Q3 S3][i4:Mu b w w' P4 Q4 S4](h1:P1)(h2:P2)(h3:P3)(h4:P4)(k:El b w w')(s1:S1:=by and_intros<;>first|trivial|omega)(s2:S2:=by and_intros<;>first|trivial|omega)(s3:S3:=by and_intros<;>first|trivial|omega)(s4:S4:=by and_intros<;>first|trivial|omega):Q1∧Q2∧Q3∧Q4:=⟨i1.mv h1 s1 k,i2.mv h2 s2 k,i3.mv h3 s3 k,i4.mv h4 s4 k⟩
theorem QP{w w':World}{b:Nat}{P1 Q1 S1 P2 Q2 S2 P3 Q3 S3 P4 Q4 S4 P5 Q5 S5:Prop}[i1:Mu b w w' P1 Q1 S1][i2:Mu b w w' P2 Q2 S2][i3:Mu b w w' P3 Q3 S3][i4:Mu b w w' P4 Q4 S4][i5:Mu b w w' P5 Q5 S5](h1:P1)(h2:P2)(h3:P3)(h4:P4)(h5:P5)(k:El b w w')(s1:S1:=by and_intros<;>first|trivial|omega)(s2:S2:=by and_intros<;>first|trivial|omega)(s3:S3:=by and_intros<;>first|trivial|omega)(s4:S4:=by and_intros<;>first|trivial|omega)(s5:S5:=by and_intros<;>first|trivial|omega):Q1∧Q2∧Q3∧Q4∧Q5:=⟨i1.mv h1 s1 k,i2.mv h2 s2 k,i3.mv h3 s3 k,i4.mv h4 s4 k,i5.mv h5 s5 k⟩
theorem WG{w w':World}{b:Nat}{P1 Q1 S1 P2 Q2 S2 P3 Q3 S3 P4 Q4 S4 P5 Q5 S5 P6 Q6 S6:Prop}[i1:Mu b w w' P1 Q1 S1][i2:Mu b w w' P2 Q2 S2][i3:Mu b w w' P3 Q3 S3][i4:Mu b w w' P4 Q4 S4][i5:Mu b w w' P5 Q5 S5][i6:Mu b w w' P6 Q6 S6](h1:P1)(h2:P2)(h3:P3)(h4:P4)(h5:P5)(h6:P6)(k:El b w w')(s1:S1:=by and_intros<;>first|trivial|omega)(s2:S2:=by and_intros<;>first|trivial|omega)(s3:S3:=by and_intros<;>first|trivial|omega)(s4:S4:=by and_intros<;>first|trivial|omega)(s5:S5:=by and_intros<;>first|trivial|omega)(s6:S6:=by and_intros<;>first|trivial|omega):Q1∧Q2∧Q3∧Q4∧Q5∧Q6:=⟨i1.mv h1 s1 k,i2.mv h2 s2 k,i3.mv h3 s3 k,i4.mv h4 s4 k,i5.mv h5 s5 k,i6.mv h6 s6 k⟩
theorem sP{w w':World}{b:Nat}{P1 Q1 S1 P2 Q2 S2 P3 Q3 S3 P4 Q4 S4 P5 Q5 S5 P6 Q6 S6 P7 Q7 S7:Prop}[i1:Mu b w w' P1 Q1 S1][i2:Mu b w w' P2 Q2 S2][i3:Mu b w w' P3 Q3 S3][i4:Mu b w w' P4 Q4 S4][i5:Mu b w w' P5 Q5 S5][i6:Mu b w w' P6 Q6 S6][i7:Mu b w w' P7 Q7 S7](h1:P1)(h2:P2)(h3:P3)(h4:P4)(h5:P5)(h6:P6)(h7:P7)(k:El b w w')(s1:S1:=by and_intros<;>first|trivial|omega)(s2:S2:=by and_intros<;>first|trivial|omega)(s3:S3:=by and_intros<;>first|trivial|omega)(s4:S4:=by and_intros<;>first|trivial|omega)(s5:S5:=by and_intros<;>first|trivial|omega)(s6:S6:=by and_intros<;>first|trivial|omega)(s7:S7:=by and_intros<;>first|trivial|omega):Q1∧Q2∧Q3∧Q4∧Q5∧Q6∧Q7:=⟨i1.mv h1 s1 k,i2.mv h2 s2 k,i3.mv h3 s3 k,i4.mv h4 s4 k,i5.mv h5 s5 k,i6.mv h6 s6 k,i7.mv h7 s7 k⟩
theorem Fe{w w':World}{b:Nat}{P1 Q1 S1 P2 Q2 S2 P3 Q3 S3 P4 Q4 S4 P5 Q5 S5 P6 Q6 S6 P7 Q7 S7 P8 Q8 S8:Prop}[i1:Mu b w w' P1 Q1 S1][i2:Mu b w w' P2 Q2 S2][i3:Mu b w w' P3 Q3 S3][i4:Mu b w w' P4 Q4 S4][i5:Mu b w w' P5 Q5 S5][i6:Mu b w w' P6 Q6 S6][i7:Mu b w w' P7 Q7 S7][i8:Mu b w w' P8 Q8 S8](h1:P1)(h2:P2)(h3:P3)(h4:P4)(h5:P5)(h6:P6)(h7:P7)(h8:P8)(k:El b w w')(s1:S1:=by and_intros<;>first|trivial|omega)(s2:S2:=by and_intros<;>first|trivial|omega)(s3:S3:=by and_intros<;>first|trivial|omega)(s4:S4:=by and_intros<;>first|trivial|omega)(s5:S5:=by and_intros<;>first|trivial|omega)(s6:S6:=by and_intros<;>first|trivial|omega)(s7:S7:=by and_intros<;>first|trivial|omega)(s8:S8:=by and_intros<;>first|trivial|omega):Q1∧Q2∧Q3∧Q4∧Q5∧Q6∧Q7∧Q8:=⟨i1.mv h1 s1 k,i2.mv h2 s2 k,i3.mv h3 s3 k,i4.mv h4 s4 k,i5.mv h5 s5 k,i6.mv h6 s6 k,i7.mv h7 s7 k,i8.mv h8 s8 k⟩
end Go.Eng
namespace Go.Eng
open Go Go.RowKit
/-! ## Literals of slice types, said shortly -/
section
variable {P:Program} {N:Nat} {K:KL} {o:Oper} {w:World} {α:Type} {e:TypeId}
theorem rA{t len parts zc sz by'}(c:Cd α)(xs:List α)(S:Nat->Prop)(uls:List (List Value))(ho:o.op= .buildSlice t len parts)(hu:P.underlying t=some (.slice e))(hi:DT P e=some (zc,sz,by'))
 (hp:(In K parts.toList).map (List.map fun p=>(p.1,p.2.cells.toList))=some (GY 0 uls))
 (hb:(Nat.beq sz c.n&&(Nat.blt 0 c.n&&(Nat.ble (len*sz) 16777216&&(Nat.beq uls.length len&&(Nat.beq len xs.length&&uls.all (fun us=>Nat.beq us.length sz))))))=true) (hrep:OQ c w S xs uls) (hS:∀k,S k->k<w.heap.size):
 MG P N K o w (fun u w'=>∃g,u= .slice (some ⟨g,0,none⟩) len len∧g=w.heap.size∧w'.heap.size=w.heap.size+1∧AD w w'∧AA c w' g S e xs u):=by
 obtain⟨vs,e1,e2⟩:=Option.map_eq_some_iff.1 hp
 simp only [Bool.and_eq_true]at hb
 obtain⟨b1,b2,b3,b4,b5,b6⟩:=hb
 have b1:=Nat.eq_of_beq_eq_true b1
 have b4:=Nat.eq_of_beq_eq_true b4
 have b5:=Nat.eq_of_beq_eq_true b5
 exact JX (out:=BU uls) ho hu hi e1 e2 (Pa uls rfl b6 b4) b3 b1 b2 b5 (UY hrep rfl) hS (by rw [GU fun us h=>Nat.eq_of_beq_eq_true (List.all_eq_true.1 b6 us h),b4])
theorem BI{t len parts zc sz by'}(c:Cd α)(xs:List α)(uls:List (List Value))(ho:o.op= .buildSlice t len parts)(hu:P.underlying t=some (.slice e))(hi:DT P e=some (zc,sz,by'))
 (hp:(In K parts.toList).map (List.map fun p=>(p.1,p.2.cells.toList))=some (GY 0 uls))
 (hb:(Nat.beq sz c.n&&(Nat.blt 0 c.n&&(Nat.ble (len*sz) 16777216&&(Nat.beq uls.length len&&(Nat.beq len xs.length&&uls.all (fun us=>Nat.beq us.length sz))))))=true) (hrep:OQ c w (Iv 0 0) xs uls):
 MG P N K o w (fun u w'=>∃g,u= .slice (some ⟨g,0,none⟩) len len∧g=w.heap.size∧w'.heap.size=w.heap.size+1∧AD w w'∧AA c w' g (Iv 0 0) e xs u):=
 rA c xs (Iv 0 0) uls ho hu hi hp hb hrep fun k h=>by have:=h.2;omega
theorem Bk{t parts zc pl}(vs:List Value)(ho:o.op= .build t parts)(hp:(In K parts.toList).map (List.map fun p=>(p.1,p.2.cells.toList))=some (GY 0 (vs.map fun v=>[v])))(hz:Dk P t=some zc)(hpl:Ev P t=some pl)(hf:Jd pl zc (GY 0 (vs.map fun v=>[v]))=some vs):Ec P N K o w (.agg vs.toArray):=by
 obtain⟨us,e1,e2⟩:=Option.map_eq_some_iff.1 hp
 exact BX ho e1 hz hpl e2 hf
end
end Go.Eng
namespace Go.Eng
open Go Go.RowKit
/-! ## The rows of a slice of slices, apart from another slice -/
def JK(v:Value)(vs:List Value):Prop:=∀(i:Nat) (u:Value),vs[i]? =some u->No v u
theorem JK.nil(v:Value):JK v []:=fun i u h=>by simp at h
theorem JK.app{v:Value}{vs us:List Value}(h:JK v vs)(h2:JK v us):JK v (vs++us):=fun i u hu=>by
 by_cases c:i<vs.length
 ·rw [List.getElem?_append_left c]at hu;exact h i u hu
 ·rw [List.getElem?_append_right (by omega)]at hu;exact h2 _ u hu
section
variable {α:Type} {c:Cd α} [DO c] {w w':World} {B hi lo' hi':Nat} {e1 e2:TypeId} {xss:List (List α)} {v z:Value} {vs:List Value}
theorem JK.of(h:own2 c w B hi e1 e2 xss v vs)(hz:Bd z lo' hi')(k:hi'<=B∨hi<=lo':=by omega):JK z vs:=fun i u hu=>by
 have hl:=h.1.1
 have hi2:i<xss.length:=by have:=(List.getElem?_eq_some_iff.1 hu).1;omega
 obtain⟨_,q,_⟩:=h.2.1 i _ u (List.getElem?_eq_getElem hi2) hu
 exact No.of hz q (by omega)
theorem Zf{u u':Value}(hgr:BE w w' u u')(h:own2 c w B hi e1 e2 xss v vs)(hn:No u v)(hr:JK u vs):own2 c w' B hi e1 e2 xss v vs:=by
 have hb:=h.blk
 obtain⟨a,d,e⟩:=h
 refine⟨ownsRow.keep a (fun g hg=>hgr.1.block g (hb g hg).2 fun e=>hn g g e.symm hg rfl),fun i xs u hx hu2=>?_,e⟩
 obtain⟨p,q,r⟩:=d i xs u hx hu2
 exact⟨p.keep (fun g hg=>hgr.1.block g (p.blk g hg).2 fun e=>hr i _ hu2 g g e.symm hg rfl) (fun _ h=>h) (fun k h=>absurd h.2 (Nat.not_lt_zero k)),q,r⟩
theorem JK.grew{u u':Value}(hgr:BE w w' u u')(hr:JK u vs)(h:own2 c w B hi e1 e2 xss v vs):JK u' vs:=fun i x hx g q hg hq=>by
 have hl:=h.1.1
 have hi2:i<xss.length:=by have:=(List.getElem?_eq_some_iff.1 hx).1;omega
 have hb:=(h.2.1 i _ x (List.getElem?_eq_getElem hi2) hx).1.blk q hq
 rcases hgr.2 g hg with h1|h1
 ·exact hr i x hx g q h1 hq
 ·omega
end
end Go.Eng
namespace Go.Eng
open Go Go.RowKit
/-! ## Own slices that move on with others -/
def OB(A:Prop)(v:Value)(lo hi:Nat):Prop:=A∧Bd v lo hi
theorem Az{A:Prop}{v:Value}{lo hi:Nat}(h:A)(k:Bd v lo hi):OB A v lo hi:=⟨h,k⟩
section
variable {w w' a:World} {b lo hi B h:Nat} {e:TypeId} {α:Type} {c:Cd α} {xs:List α} {v:Value}
instance [DO c]:Mu b w w' (OB (AA c w B (Iv 0 0) e xs v) v lo hi) (AA c w' B (Iv 0 0) e xs v) (b<lo∨hi<=b):=⟨fun h s k=>AA.upd h.1 k (Nb.of h.2 s)⟩
instance:Mu b w w' (OB (AA c w B (SX B h v) e xs v) v lo hi) (AA c w' B (SX B h v) e xs v) ((b<lo∨hi<=b)∧(b<B∨h<=b)):=⟨fun h s k=>AA.updN h.1 k (Nb.of h.2 s.1) s.2⟩
instance [DO c]:Mu b w w' (OB (Fx c w B e xs v) v lo hi) (Fx c w' B e xs v) (b<lo∨hi<=b):=⟨fun h s k=>Fx.upd h.1 k (Nb.of h.2 s)⟩
theorem gW{P1 Q1 S1:Prop}[i1:Mu b w w' P1 Q1 S1](h1:P1)(k:El b w w')(s1:S1:=by and_intros<;>first|trivial|omega):Q1:=i1.mv h1 s1 k
end
end Go.Eng
namespace Go.Eng
open Go Go.RowKit
/-! ## Short words for the walks' texts: what is computed is asked for last -/
theorem z{α:Sort _}{a:α}:a=a:=rfl
@[reducible] def _root_.Go.Value.p (b:Nat):Value:=.pointer (some ⟨b,0,none⟩)
section
variable {P:Program} {N:Nat} {ops:Array Oper} {Q:Exit -> Act -> World -> Prop} {n:Nat} {K:KL} {w w0:World} {f:Nat} {listed:Array Bool} {p:Nat -> Prop}
theorem GI{o:Oper}{v:Value}(i:Nat)(hi:ops[i]? =some o)(h:∀wx,CW p w0 wx->Ec P N K o wx v)(k:JG P N ops n (noPan Q) p w0 f (listed.setIfInBounds i true) (BT K o.dst v) w)
 (hh:EI ops n=true:=by kernel_rfl) (hc:(Nat.blt i n&&Region.free .any ops listed i&&(Region.ready .any ops listed).contains i)=true:=by kernel_rfl) (hg:o.guard=none:=by rfl) (hd:Cy N o.dst=true:=by rfl):
 JG P N ops n (noPan Q) p w0 (f+1) listed K w:=JG.yld i hh hi hc hg hd h k
theorem mX{o:Oper}{Ψ:Value->Prop}(i:Nat)(hi:ops[i]? =some o)(h:YA P N K o Ψ)(k:∀v,Ψ v->JG P N ops n (noPan Q) p w0 f (listed.setIfInBounds i true) (BT K o.dst v) w)
 (hh:EI ops n=true:=by kernel_rfl) (hc:(Nat.blt i n&&Region.free .any ops listed i&&(Region.ready .any ops listed).contains i)=true:=by kernel_rfl) (hg:o.guard=none:=by rfl) (hd:Cy N o.dst=true:=by rfl):
 JG P N ops n (noPan Q) p w0 (f+1) listed K w:=JG.ya i hh hi hc hg hd h k
theorem Qt{o:Oper}{R:Value->World->Prop}(i:Nat)(hi:ops[i]? =some o)(h:MG P N K o w R)(k:∀v w',R v w'->CW p w0 w'∧JG P N ops n (noPan Q) p w0 f (listed.setIfInBounds i true) (BT K o.dst v) w')
 (hin:Nat.blt i n=true:=by rfl) (hr:Region.ready .any ops listed=[i]:=by kernel_rfl) (hg:o.guard=none:=by rfl) (hd:Cy N o.dst=true:=by rfl):JG P N ops n (noPan Q) p w0 (f+1) listed K w:=JG.eff i hi hin hr hg hd h k
theorem Eg{o:Oper}{R:Value->World->Prop}(i:Nat)(hi:ops[i]? =some o)(h:MG P N K o w R)(k:∀v w',R v w'->AD w0 w'∧HL P N ops n (noPan Q) w0 f (listed.setIfInBounds i true) (BT K o.dst v) w')
 (hin:Nat.blt i n=true:=by rfl) (hr:(Region.ready .any ops listed).contains i=true:=by kernel_rfl) (h0:FM N ops K o= .yes:=by rfl):HB P N ops n (noPan Q) w0 f listed K w i:=HBe i hi hin hr h0 h k
theorem CQ{o:Oper}{R:Value->World->Prop}(i:Nat)(hi:ops[i]? =some o)(h:MG P N K o w R)(k:∀v w',R v w'->AD w0 w'∧HL P N ops n (noPan Q) w0 f (listed.setIfInBounds i true) (BT K o.dst v) w')
 (hin:Nat.blt i n=true:=by rfl) (hr:Region.ready .any ops listed=[i]:=by kernel_rfl) (h0:FM N ops K o= .yes:=by rfl):HL P N ops n (noPan Q) w0 (f+1) listed K w:=HLe i hi hin hr h0 h k
theorem Ao{o:Oper}{v:Value}(i:Nat)(hh:EI ops n=true)(hi:ops[i]? =some o)(h:Ec P N K o w0 v)(k:HL P N ops n (noPan Q) w0 f (listed.setIfInBounds i true) (BT K o.dst v) w)
 (hc:(Nat.blt i n&&Region.free .any ops listed i&&(Region.ready .any ops listed).contains i)=true:=by kernel_rfl) (h0:FM N ops K o= .yes:=by rfl):HL P N ops n (noPan Q) w0 (f+1) listed K w:=HLy i hh hi hc h0 h k
theorem Fa{o:Oper}{Ψ:Value->Prop}(i:Nat)(hh:EI ops n=true)(hi:ops[i]? =some o)(h:YE P N K o w0 Ψ)(k:∀v,Ψ v->HL P N ops n (noPan Q) w0 f (listed.setIfInBounds i true) (BT K o.dst v) w)
 (hc:(Nat.blt i n&&Region.free .any ops listed i&&(Region.ready .any ops listed).contains i)=true:=by kernel_rfl) (h0:FM N ops K o= .yes:=by rfl):HL P N ops n (noPan Q) w0 (f+1) listed K w:=AcO i hh hi hc h0 h k
theorem Dr{l:List Oper}(hops:ops=l.toArray)(k:TL P N ops (noPan Q) (l.drop n) K w)(hseq:Region.seqB .any ops (l.drop n).length n listed=true:=by kernel_rfl)(hf:f=(l.drop n).length:=by rfl):HL P N ops n (noPan Q) w0 f listed K w:=HL.tail hops hseq hf k
theorem eH{l:List Oper}(hops:ops=l.toArray)(k:TL P N ops (noPan Q) (l.drop n) K w)(hseq:Region.seqB .any ops (l.drop n).length n listed=true:=by kernel_rfl)(hf:f=(l.drop n).length:=by rfl):JG P N ops n (noPan Q) p w0 f listed K w:=JG.tail hops hseq hf k
theorem CR(hh:EI ops n=true)(is:List Nat){f:Nat}{listed:Array Bool}{K:KL}(h:cN P N ops n Q w0 is f listed K w)(hc:qL ops n is listed=true:=by kernel_rfl):HL P N ops n (noPan Q) w0 f listed K w:=Hr hh is hc h
theorem Bz{id:Nat}{l:List Oper}(n:Nat)(hm:P.follows .mixedOrders=true)(h:∀w',AD w w'->EI l.toArray n=true->HL P N l.toArray n (noPan Q) w' l.length (Array.replicate l.length false) K w')(hh:EI l.toArray n=true:=by kernel_rfl):
 WC P N (.region id l.toArray true) Q K w:=WC.heldD n hm hh h
theorem Ba{id:Nat}{l:List Oper}(hm:P.follows .mixedOrders=true)(h:QL P N l.toArray w (fun a'=>∀w',AD w w'->Q .normal a' w') l K)(hB:Region.lexB .any l.toArray=true:=by kernel_rfl):WC P N (.region id l.toArray true) Q K w:=WC.quiet hm hB h
theorem KO{K':KL}(e:K'.map (fun p=>kl K p.1)=K'.map (fun p=>some p.2):=by rfl):QL P N ops w (fun a=>Kn N K' a) [] K:=QL.nil fun a h=>h.sub e
end
section
variable {P:Program} {N:Nat} {Q0:Exit -> Act -> World -> Prop} {K K':KL} {w:World} {fs:List Frame} {ops:Array Oper} {l:List Oper}
theorem Dq{R:World->Prop}(r:R w)(e:K'.map (fun p=>kl K p.1)=K'.map (fun p=>some p.2):=by rfl):TL P N ops (Ft P Q0 (.lp (fun a u=>Kn N K' a∧R u)::fs)) [] K w:=TL.nil fun _ h=>⟨h.sub e,r⟩
def Ot(K:KL):List Nat->KL->Option KL
 |[],acc=>some acc
 |i::is,acc=>match kl K i with
  |some v=>Ot K is ((i,v)::acc)
  |none=>none
end
section
variable {P:Program} {N:Nat} {ops:Array Oper} {Q:Exit -> Act -> World -> Prop} {K:KL} {w:World} {l:List Oper} {Qa:Act -> Prop}
theorem Kd(t:Nat){c:Bool}(h:kl K t=some (.bool c))(h1:c=true->TL P N ops Q l ((t,.bool true)::K) w)(h2:c=false->TL P N ops Q l ((t,.bool false)::K) w):TL P N ops Q l K w:=by
 rcases bft c with e|e
 ·exact Kc t e h (h1 e)
 ·exact Kc t e h (h2 e)
theorem Kdq(t:Nat){c:Bool}(h:kl K t=some (.bool c))(h1:c=true->QL P N ops w Qa l ((t,.bool true)::K))(h2:c=false->QL P N ops w Qa l ((t,.bool false)::K)):QL P N ops w Qa l K:=by
 rcases bft c with e|e
 ·exact Kq t e h (h1 e)
 ·exact Kq t e h (h2 e)
end
theorem AK.oj{α:Type}{c:Cd α}{w w':World}{lo H:Nat}{xs:List α}{v:Value}(h:AK c w (Iv lo H) xs v)(he:AD w w')(hH:H<=w.heap.size:=by assumption):AK c w' (Iv lo H) xs v:=h.old he hH
theorem CB{P:Program}{N:Nat}{c:Code}{Q:Exit->Act->World->Prop}{K:KL}{w:World}{a:Act}(hK:Kn N K a)(h:WC P N c Q K w):c.wp P Q a w:=h a hK
section
variable (P:Program) (N:Nat) (ops:Array Oper) (n:Nat) (Q:Exit -> Act -> World -> Prop) (p:Nat -> Prop) (w0:World)
def eL:List Nat->Nat->Array Bool->KL->World->Prop
 |[]=>fun f listed K w=>JG P N ops n (noPan Q) p w0 f listed K w
 |i::is=>fun f listed K w=>match f with
  |0=>False
  |f+1=>match ops[i]? with
   |none=>False
   |some o=>match o.guard with
    |some _=>False
    |none=>match Cy N o.dst with
     |false=>False
     |true=>match yq K o.op with
      |some v=>eL is f (listed.setIfInBounds i true) (BT K o.dst v) w
      |none=>False
end
section
variable {P:Program} {N:Nat} {ops:Array Oper} {Q:Exit -> Act -> World -> Prop} {n:Nat} {p:Nat -> Prop} {w w0:World}
theorem GrA(hh:EI ops n=true):∀(is:List Nat) {f:Nat} {listed:Array Bool} {K:KL},qL ops n is listed=true->eL P N ops n Q p w0 is f listed K w->JG P N ops n (noPan Q) p w0 f listed K w
 |[],_,_,_,_,h=>h
 |i::is,0,listed,K,_,h=>h.elim
 |i::is,f+1,listed,K,hc,h=>by
  simp only [qL,Bool.and_eq_true]at hc
  have hc':(Nat.blt i n&&Region.free .any ops listed i&&(Region.ready .any ops listed).contains i)=true:=by simp only [Bool.and_eq_true];exact hc.1
  simp only [eL]at h
  split at h
  ·exact h.elim
  ·rename_i o hi
   split at h
   ·exact h.elim
   ·rename_i hg
    split at h
    ·exact h.elim
    ·rename_i hd
     split at h
     ·rename_i v hv;exact JG.yld i hh hi hc' hg hd (fun wx _=>Mb hv) (GrA hh is hc.2 h)
     ·exact h.elim
theorem WE(is:List Nat){f:Nat}{listed:Array Bool}{K:KL}(h:eL P N ops n Q p w0 is f listed K w)(hh:EI ops n=true:=by kernel_rfl)(hc:qL ops n is listed=true:=by kernel_rfl):JG P N ops n (noPan Q) p w0 f listed K w:=GrA hh is hc h
end
@[reducible] def Ak (v:Value) (w:World):Ending->World->Prop:=Di fun u U=>u=v∧AD w U
@[reducible] def AP {α:Type} (c:Cd α) (w:World) (H:Nat) (xs:List α) (v:Value):Prop:=AK c w (Iv 0 H) xs v
end Go.Eng
namespace Go.Eng
open Go Go.RowKit
/-! ## Several steps in one word -/
@[reducible] def oY (us:List Value) (i:Nat) (Z:Value->Prop):Prop:=match us[i]? with
 |some u=>Z u
 |none=>False
theorem oY.ok{us:List Value}{i:Nat}{Z:Value->Prop}(h:oY us i Z):∃u,us[i]? =some u∧Z u:=by
 unfold oY at h
 split at h
 ·rename_i u hu;exact⟨u,hu,h⟩
 ·exact h.elim
section
variable {P:Program} {N:Nat} {ops:Array Oper} {Q:Exit -> Act -> World -> Prop} {K:KL} {w w0:World} {o o2 o3:Oper} {rest:List Oper} {Qa:Act -> Prop} {α β:Type} {r:β}
theorem Cs{A:Option α}{g:α->Option β}{rt:α->Value}{f:Nat}{vs:List Value}(hF:A.bind g=some r)(he:AD w0 w)(hf:AZ P f=true)
 (hc:∀x,A=some x->Calls P f vs.toArray w (Ak (rt x) w)) (k:∀x,g x=some r->∀w',AD w w'->AD w0 w'∧w.heap.size<=w'.heap.size->TL P N ops Q rest (BT K o.dst (rt x)) w')
 (h0:FM N ops K o= .yes:=by rfl) (hcl:sK K o.op=some (f,vs):=by rfl):TL P N ops Q (o::rest) K w:=by
 obtain⟨x,h1,h2⟩:=AM hF
 refine Ef h0 (CT hcl hf (hc _ h1)) fun v w' h=>?_
 obtain⟨rfl,h⟩:=h
 exact k x h2 w' h (Et he h)
theorem Cg{A:Option α}{g:α->Option β}{R:α->Value->World->Prop}{f:Nat}{vs:List Value}(hF:A.bind g=some r)(hf:AZ P f=true)
 (hc:∀x,A=some x->Calls P f vs.toArray w (Di (R x))) (k:∀x,g x=some r->∀v w',R x v w'->TL P N ops Q rest (BT K o.dst v) w')
 (h0:FM N ops K o= .yes:=by rfl) (hcl:sK K o.op=some (f,vs):=by rfl):TL P N ops Q (o::rest) K w:=by
 obtain⟨x,h1,h2⟩:=AM hF
 exact Ef h0 (CT hcl hf (hc _ h1)) fun v w' h=>k x h2 v w' h
section
variable {c:Cd α} {xs:List α} {S:Nat -> Prop} {v:Value} {e t t2 B:Nat} {m:Int} {kk:IntKind} {g:α -> Option β} {sv:α -> Value}
theorem Ix(hF:(AG xs m).bind g=some r)(hs:AK c w S xs v)(hu:P.underlying t=some (.slice e))(hc:Ar P e=some c.n)
 (k:∀y,AG xs m=some y->g y=some r->∀u,(∃b off us,u= .pointer (some ⟨b,off,none⟩)∧S b∧c.rep w S y us∧AR w b off us)->TL P N ops Q rest (BT K o.dst u) w)
 (h0:FM N ops K o= .yes:=by rfl) (hi:Vg K o.op=some (t,v,kk,m):=by rfl):TL P N ops Q (o::rest) K w:=by
 obtain⟨y,h1,h2⟩:=AM hF
 exact Ye h0 (HA hi hu hc hs h1) fun u h=>k y h1 h2 u h
theorem Io(hF:(AG xs m).bind g=some r)(hs:AA c w B S e xs v)(hu:P.underlying t=some (.slice e))(hc:Ar P e=some c.n)
 (k:∀y,AG xs m=some y->g y=some r->∀u,(∃b us,u= .pointer (some ⟨b,0+m.toNat*c.n,none⟩)∧v.ownBlock=some b∧c.rep w S y us∧AR w b (0+m.toNat*c.n) us)->TL P N ops Q rest (BT K o.dst u) w)
 (h0:FM N ops K o= .yes:=by rfl) (hi:Vg K o.op=some (t,v,kk,m):=by rfl):TL P N ops Q (o::rest) K w:=by
 obtain⟨y,h1,h2⟩:=AM hF
 exact Ye h0 (NR hi hu hc hs h1) fun u h=>k y h1 h2 u h
theorem Iq(hF:(AG xs m).bind g=some r)(hs:AK c w S xs v)(hu:P.underlying t=some (.slice e))(hc:Ar P e=some c.n)
 (k:∀y,AG xs m=some y->g y=some r->∀u,(∃b off us,u= .pointer (some ⟨b,off,none⟩)∧S b∧c.rep w S y us∧AR w b off us)->QL P N ops w Qa rest (BT K o.dst u))
 (h0:FM N ops K o= .yes:=by rfl) (hi:Vg K o.op=some (t,v,kk,m):=by rfl):QL P N ops w Qa (o::rest) K:=by
 obtain⟨y,h1,h2⟩:=AM hF
 exact Qe h0 (HA hi hu hc hs h1) fun u h=>k y h1 h2 u h
theorem Iqo(hF:(AG xs m).bind g=some r)(hs:AA c w B S e xs v)(hu:P.underlying t=some (.slice e))(hc:Ar P e=some c.n)
 (k:∀y,AG xs m=some y->g y=some r->∀u,(∃b us,u= .pointer (some ⟨b,0+m.toNat*c.n,none⟩)∧v.ownBlock=some b∧c.rep w S y us∧AR w b (0+m.toNat*c.n) us)->QL P N ops w Qa rest (BT K o.dst u))
 (h0:FM N ops K o= .yes:=by rfl) (hi:Vg K o.op=some (t,v,kk,m):=by rfl):QL P N ops w Qa (o::rest) K:=by
 obtain⟨y,h1,h2⟩:=AM hF
 exact Qe h0 (NR hi hu hc hs h1) fun u h=>k y h1 h2 u h
theorem Il(hF:(AG xs m).bind g=some r)(hs:AK c w S xs v)(hu:P.underlying t=some (.slice e))(hc:Ar P e=some c.n)(ha:Bj P t2=some false)
 (k:∀y,g y=some r->∀u,TL P N ops Q rest (BT (BT K o.dst u) o2.dst (sv y)) w)
 (hsv:∀y us,c.rep w S y us->us=[sv y]:=by exact fun _ _ h=>h) (h0:FM N ops K o= .yes:=by rfl) (hi:Vg K o.op=some (t,v,kk,m):=by rfl)
 (h2:∀u,FM N ops (BT K o.dst u) o2= .yes:=by intro _;rfl) (hl:∀b off,Sx (BT K o.dst (.pointer (some ⟨b,off,none⟩))) o2.op=some (t2,b,off):=by intro _ _;rfl):TL P N ops Q (o::o2::rest) K w:=by
 refine Ix hF hs hu hc (fun y _ h3 u h=>?_) h0 hi
 obtain⟨b,off,us,rfl,_,h5,h6⟩:=h
 have h5:=hsv _ _ h5
 subst h5
 exact Yl (h2 _) (FB 0 (hl _ _) ha h6 rfl rfl) (k y h3 _)
theorem NP(hF:(AG xs m).bind g=some r)(hs:AA c w B S e xs v)(hu:P.underlying t=some (.slice e))(hc:Ar P e=some c.n)(ha:Bj P t2=some false)
 (k:∀y,g y=some r->∀u,TL P N ops Q rest (BT (BT K o.dst u) o2.dst (sv y)) w)
 (hsv:∀y us,c.rep w S y us->us=[sv y]:=by exact fun _ _ h=>h) (h0:FM N ops K o= .yes:=by rfl) (hi:Vg K o.op=some (t,v,kk,m):=by rfl)
 (h2:∀u,FM N ops (BT K o.dst u) o2= .yes:=by intro _;rfl) (hl:∀b off,Sx (BT K o.dst (.pointer (some ⟨b,off,none⟩))) o2.op=some (t2,b,off):=by intro _ _;rfl):TL P N ops Q (o::o2::rest) K w:=by
 refine Io hF hs hu hc (fun y _ h3 u h=>?_) h0 hi
 obtain⟨b,us,rfl,_,h5,h6⟩:=h
 have h5:=hsv _ _ h5
 subst h5
 exact Yl (h2 _) (FB 0 (hl _ _) ha h6 rfl rfl) (k y h3 _)
theorem NZ(hF:(AG xs m).bind g=some r)(hs:AK c w S xs v)(hu:P.underlying t=some (.slice e))(hc:Ar P e=some c.n)(ha:Bj P t2=some false)
 (k:∀y,g y=some r->∀u,QL P N ops w Qa rest (BT (BT K o.dst u) o2.dst (sv y)))
 (hsv:∀y us,c.rep w S y us->us=[sv y]:=by exact fun _ _ h=>h) (h0:FM N ops K o= .yes:=by rfl) (hi:Vg K o.op=some (t,v,kk,m):=by rfl)
 (h2:∀u,FM N ops (BT K o.dst u) o2= .yes:=by intro _;rfl) (hl:∀b off,Sx (BT K o.dst (.pointer (some ⟨b,off,none⟩))) o2.op=some (t2,b,off):=by intro _ _;rfl):QL P N ops w Qa (o::o2::rest) K:=by
 refine Iq hF hs hu hc (fun y _ h3 u h=>?_) h0 hi
 obtain⟨b,off,us,rfl,_,h5,h6⟩:=h
 have h5:=hsv _ _ h5
 subst h5
 exact Qy (h2 _) (FB 0 (hl _ _) ha h6 rfl rfl) (k y h3 _)
theorem gX(hF:(AG xs m).bind g=some r)(hs:AA c w B S e xs v)(hu:P.underlying t=some (.slice e))(hc:Ar P e=some c.n)(ha:Bj P t2=some false)
 (k:∀y,g y=some r->∀u,QL P N ops w Qa rest (BT (BT K o.dst u) o2.dst (sv y)))
 (hsv:∀y us,c.rep w S y us->us=[sv y]:=by exact fun _ _ h=>h) (h0:FM N ops K o= .yes:=by rfl) (hi:Vg K o.op=some (t,v,kk,m):=by rfl)
 (h2:∀u,FM N ops (BT K o.dst u) o2= .yes:=by intro _;rfl) (hl:∀b off,Sx (BT K o.dst (.pointer (some ⟨b,off,none⟩))) o2.op=some (t2,b,off):=by intro _ _;rfl):QL P N ops w Qa (o::o2::rest) K:=by
 refine Iqo hF hs hu hc (fun y _ h3 u h=>?_) h0 hi
 obtain⟨b,us,rfl,_,h5,h6⟩:=h
 have h5:=hsv _ _ h5
 subst h5
 exact Qy (h2 _) (FB 0 (hl _ _) ha h6 rfl rfl) (k y h3 _)
end
section
variable {t f fo t2 t3 b T e off:Nat} {us:List Value} {c:Cd α} {xs:List α} {S:Nat -> Prop} {v:Value}
theorem Fl(hfo:AL P t f=some fo)(ha:Bj P t2=some false)(hb:Ae w b us T)(k:oY us (0+fo) fun u=>TL P N ops Q rest (BT (BT K o.dst (.pointer (some ⟨b,0+fo,none⟩))) o2.dst u) w)
 (h0:FM N ops K o= .yes:=by rfl) (hi:gG K o.op=some (t,f,b,0):=by rfl) (h2:FM N ops (BT K o.dst (.pointer (some ⟨b,0+fo,none⟩))) o2= .yes:=by rfl)
 (hl:Sx (BT K o.dst (.pointer (some ⟨b,0+fo,none⟩))) o2.op=some (t2,b,0+fo):=by rfl):TL P N ops Q (o::o2::rest) K w:=by
 obtain⟨u,hu,k⟩:=k.ok
 exact Yl h0 (BQ hi hfo) (Yl h2 (Cw hl ha hb hu) k)
theorem Fq(hfo:AL P t f=some fo)(ha:Bj P t2=some false)(hb:Ae w b us T)(k:oY us (0+fo) fun u=>QL P N ops w Qa rest (BT (BT K o.dst (.pointer (some ⟨b,0+fo,none⟩))) o2.dst u))
 (h0:FM N ops K o= .yes:=by rfl) (hi:gG K o.op=some (t,f,b,0):=by rfl) (h2:FM N ops (BT K o.dst (.pointer (some ⟨b,0+fo,none⟩))) o2= .yes:=by rfl)
 (hl:Sx (BT K o.dst (.pointer (some ⟨b,0+fo,none⟩))) o2.op=some (t2,b,0+fo):=by rfl):QL P N ops w Qa (o::o2::rest) K:=by
 obtain⟨u,hu,k⟩:=k.ok
 exact Qy h0 (BQ hi hfo) (Qy h2 (Cw hl ha hb hu) k)
theorem Fc(hfo:AL P t f=some fo)(ha:Bj P t2=some false)(hb:AR w b off us)(k:oY us fo fun u=>TL P N ops Q rest (BT (BT K o.dst (.pointer (some ⟨b,off+fo,none⟩))) o2.dst u) w)
 (h0:FM N ops K o= .yes:=by rfl) (hi:gG K o.op=some (t,f,b,off):=by rfl) (h2:FM N ops (BT K o.dst (.pointer (some ⟨b,off+fo,none⟩))) o2= .yes:=by rfl)
 (hl:Sx (BT K o.dst (.pointer (some ⟨b,off+fo,none⟩))) o2.op=some (t2,b,off+fo):=by rfl):TL P N ops Q (o::o2::rest) K w:=by
 obtain⟨u,hu,k⟩:=k.ok
 exact Yl h0 (BQ hi hfo) (Yl h2 (FB fo hl ha hb rfl hu) k)
theorem Ow(hfo:AL P t f=some fo)(ha:Bj P t2=some false)(hb:AR w b off us)(k:oY us fo fun u=>QL P N ops w Qa rest (BT (BT K o.dst (.pointer (some ⟨b,off+fo,none⟩))) o2.dst u))
 (h0:FM N ops K o= .yes:=by rfl) (hi:gG K o.op=some (t,f,b,off):=by rfl) (h2:FM N ops (BT K o.dst (.pointer (some ⟨b,off+fo,none⟩))) o2= .yes:=by rfl)
 (hl:Sx (BT K o.dst (.pointer (some ⟨b,off+fo,none⟩))) o2.op=some (t2,b,off+fo):=by rfl):QL P N ops w Qa (o::o2::rest) K:=by
 obtain⟨u,hu,k⟩:=k.ok
 exact Qy h0 (BQ hi hfo) (Qy h2 (FB fo hl ha hb rfl hu) k)
theorem Dp(hfo:AL P t f=some fo)(ha:Bj P t2=some false)(hb:Ae w b us T)(hu3:P.underlying t3=some (.slice e))(hs:AK c w S xs v)
 (k:TL P N ops Q rest (BT (BT (BT K o.dst (.pointer (some ⟨b,0+fo,none⟩))) o2.dst v) o3.dst (.int .i64 xs.length)) w) (hv:us[0+fo]? =some v:=by rfl)
 (h0:FM N ops K o= .yes:=by rfl) (hi:gG K o.op=some (t,f,b,0):=by rfl) (h2:FM N ops (BT K o.dst (.pointer (some ⟨b,0+fo,none⟩))) o2= .yes:=by rfl)
 (hl:Sx (BT K o.dst (.pointer (some ⟨b,0+fo,none⟩))) o2.op=some (t2,b,0+fo):=by rfl) (h3:FM N ops (BT (BT K o.dst (.pointer (some ⟨b,0+fo,none⟩))) o2.dst v) o3= .yes:=by rfl)
 (hl3:sO (BT (BT K o.dst (.pointer (some ⟨b,0+fo,none⟩))) o2.dst v) o3.op=some (t3,v):=by rfl):TL P N ops Q (o::o2::o3::rest) K w:=
 Yl h0 (BQ hi hfo) (Yl h2 (Cw hl ha hb hv) (Yl h3 (CJ hl3 hu3 hs) k))
theorem Sg(hfo:AL P t f=some fo)(ha:Bj P t2=some false)(hb:Ae w b us T)(hu3:P.underlying t3=some (.slice e))(hs:AK c w S xs v)
 (k:QL P N ops w Qa rest (BT (BT (BT K o.dst (.pointer (some ⟨b,0+fo,none⟩))) o2.dst v) o3.dst (.int .i64 xs.length))) (hv:us[0+fo]? =some v:=by rfl)
 (h0:FM N ops K o= .yes:=by rfl) (hi:gG K o.op=some (t,f,b,0):=by rfl) (h2:FM N ops (BT K o.dst (.pointer (some ⟨b,0+fo,none⟩))) o2= .yes:=by rfl)
 (hl:Sx (BT K o.dst (.pointer (some ⟨b,0+fo,none⟩))) o2.op=some (t2,b,0+fo):=by rfl) (h3:FM N ops (BT (BT K o.dst (.pointer (some ⟨b,0+fo,none⟩))) o2.dst v) o3= .yes:=by rfl)
 (hl3:sO (BT (BT K o.dst (.pointer (some ⟨b,0+fo,none⟩))) o2.dst v) o3.op=some (t3,v):=by rfl):QL P N ops w Qa (o::o2::o3::rest) K:=
 Qy h0 (BQ hi hfo) (Qy h2 (Cw hl ha hb hv) (Qy h3 (CJ hl3 hu3 hs) k))
end
end
/-! ## A fork one of whose ways returns at once -/
section
variable (N:Nat)
def RX:Nat->Md->List Frame->KL->Option KL
 |0=>fun _ _ _=>none
 |n+1=>fun m fs K=>match m with
  | .c c=>match c with
   | .seq x y=>RX n (.c x) (.seq y::fs) K
   | .region _ ops false=>RX n (.o ops ops.toList) fs K
   | .block id x=>RX n (.c x) (.blk id::fs) K
   | .skip=>RX n (.e .normal) fs K
   | .exit id=>RX n (.e (.exit id)) fs K
   | .ret=>RX n (.e .ret) fs K
   |_=>none
  | .o ops l=>match l with
   |[]=>RX n (.e .normal) fs K
   |o::rest=>match FM N ops K o with
    | .yes=>match yq K o.op with
     |some v=>RX n (.o ops rest) fs (BT K o.dst v)
     |none=>none
    | .skip=>RX n (.o ops rest) fs (BT K o.dst undef)
    | .no=>none
  | .e e=>match fs with
   |[]=>match e with
    | .ret=>some K
    |_=>none
   | .seq c::fs=>match e with
    | .normal=>RX n (.c c) fs K
    | .ret=>RX n (.e .ret) fs K
    | .exit id=>RX n (.e (.exit id)) fs K
    |_=>none
   | .blk id::fs=>match e with
    | .normal=>RX n (.e .normal) fs K
    | .ret=>RX n (.e .ret) fs K
    | .exit id'=>bif Nat.beq id' id then RX n (.e .normal) fs K else RX n (.e (.exit id')) fs K
    |_=>none
   | .lp f::fs=>match e with
    | .ret=>RX n (.e .ret) fs K
    | .exit id=>RX n (.e (.exit id)) fs K
    |_=>none
end
section
variable {P:Program} {N:Nat} {Q0:Exit -> Act -> World -> Prop}
theorem RX.ok:∀(n:Nat) {m:Md} {fs:List Frame} {K K':KL} {w:World},RX N n m fs K=some K'->NX N Q0 .ret K' w->yV P N Q0 m fs K w
 |0,_,_,_,_,_,h,_=>by cases h
 |n+1,m,fs,K,K',w,h,q=>by
  cases m with
  |c c=>
   cases c with
   |seq x y=>exact WC.seq (RX.ok n h q)
   |region id ops d=>
    cases d with
    |false=>
     have h2:TL P N ops (Ft P Q0 fs) ops.toList K w:=RX.ok n h q
     show WC P N (.region id ops false) (Ft P Q0 fs) K w
     have:ops=ops.toList.toArray:=by simp
     rw [this];rw [this]at h2
     exact WC.region (by simpa using h2)
    |true=>cases h
   |block id x=>exact WC.block (RX.ok n h q)
   |skip=>exact WC.skip' (RX.ok n h q)
   |exit id=>exact WC.exit' (RX.ok n h q)
   |ret=>exact WC.ret' (RX.ok n h q)
   |cond _ _ _=>cases h
   |loop _=>cases h
   |_=>cases h
  |o ops l=>
   cases l with
   |nil=>exact TL.done (RX.ok n h q)
   |cons o rest=>
    simp only [RX]at h
    split at h
    ·rename_i hg
     split at h
     ·rename_i v hv;exact Yl hg (Mb hv) (RX.ok n h q)
     ·cases h
    ·rename_i hg;exact Sk hg (RX.ok n h q)
    ·cases h
  |e e=>
   cases fs with
   |nil=>
    cases e with
    |ret=>obtain rfl:=Option.some.inj h;exact q
    |_=>cases h
   |cons f fs=>
    cases f with
    |seq c=>
     cases e with
     |normal=>exact NX.seq (RX.ok n h q)
     |ret=>exact NX.then_r (RX.ok n h q)
     |exit id=>exact NX.then_e (RX.ok n h q)
     |_=>cases h
    |blk id=>
     cases e with
     |normal=>exact NX.blk_n (RX.ok n h q)
     |ret=>exact NX.blk_r (RX.ok n h q)
     |exit id'=>
      simp only [RX]at h
      cases hb:Nat.beq id' id with
      |true=>
       rw [hb]at h
       obtain rfl:=Nat.eq_of_beq_eq_true hb
       exact NX.blk_hit (RX.ok n h q)
      |false=>rw [hb]at h;exact NX.blk_miss hb (RX.ok n h q)
     |_=>cases h
    |lp f=>
     cases e with
     |normal=>cases h
     |ret=>exact NX.then_r (RX.ok n h q)
     |exit id=>exact NX.then_e (RX.ok n h q)
     |_=>cases h
def RV(N n:Nat)(m:Md)(fs:List Frame)(K:KL)(rs:List ResultVar):Option Value:=match RX N n m fs K with
 |some K'=>match WN K' rs with
  |some vs=>some (EU vs)
  |none=>none
 |none=>none
theorem RV.ok{n:Nat}{m:Md}{fs:List Frame}{K:KL}{w:World}{fn:Func}{v:Value}{R:Ending->World->Prop}(h:RV N n m fs K fn.results.toList=some v)(hR:R (.returned v) w):yV P N (bodyPost P fn R) m fs K w:=by
 unfold RV at h
 split at h
 ·rename_i K' h1
  split at h
  ·rename_i vs h2
   obtain rfl:=Option.some.inj h
   exact RX.ok n h1 (Ne (by simp) h2 hR)
  ·cases h
 ·cases h
variable {α:Type} {c:Operand} {x y:Code} {t:Bool} {u:α} {A B:Option α} {r:α} {v:Value} {X:World -> Prop} {fn:Func} {fs:List Frame} {K:KL} {w:World}
theorem Wt(hF:(bif t then some u else B)=some r)(hX:X w)(k:B=some r->WC P N y (Ft P (bodyPost P fn (Di fun z U=>z=v∧X U)) fs) K w)(hc:CL K c=some (.bool t):=by rfl)(hv:u=r->RV N 99 (.c x) fs K fn.results.toList=some v:=by intro h;subst h;rfl):
 WC P N (.cond c x y) (Ft P (bodyPost P fn (Di fun z U=>z=v∧X U)) fs) K w:=
 Wc hc hF (fun h=>RV.ok (m:=.c x) (hv (Sy h)) ⟨_,rfl,rfl,hX⟩) k
theorem Wf(hF:(bif t then A else some u)=some r)(hX:X w)(k:A=some r->WC P N x (Ft P (bodyPost P fn (Di fun z U=>z=v∧X U)) fs) K w)(hc:CL K c=some (.bool t):=by rfl)(hv:u=r->RV N 99 (.c y) fs K fn.results.toList=some v:=by intro h;subst h;rfl):
 WC P N (.cond c x y) (Ft P (bodyPost P fn (Di fun z U=>z=v∧X U)) fs) K w:=
 Wc hc hF k fun h=>RV.ok (m:=.c y) (hv (Sy h)) ⟨_,rfl,rfl,hX⟩
theorem ID{c:Code}(hF:some u=some r)(hX:X w)(hv:u=r->RV N 99 (.c c) fs K fn.results.toList=some v:=by intro h;subst h;rfl):WC P N c (Ft P (bodyPost P fn (Di fun z U=>z=v∧X U)) fs) K w:=RV.ok (m:=.c c) (hv (Sy hF)) ⟨_,rfl,rfl,hX⟩
theorem DY{ops:Array Oper}{l:List Oper}(hF:some u=some r)(hX:X w)(hv:u=r->RV N 99 (.o ops l) fs K fn.results.toList=some v:=by intro h;subst h;rfl):TL P N ops (Ft P (bodyPost P fn (Di fun z U=>z=v∧X U)) fs) l K w:=RV.ok (m:=.o ops l) (hv (Sy hF)) ⟨_,rfl,rfl,hX⟩
theorem Vv{e:Exit}(hF:some u=some r)(hX:X w)(hv:u=r->RV N 99 (.e e) fs K fn.results.toList=some v:=by intro h;subst h;rfl):NX N (Ft P (bodyPost P fn (Di fun z U=>z=v∧X U)) fs) e K w:=RV.ok (m:=.e e) (hv (Sy hF)) ⟨_,rfl,rfl,hX⟩
end
section
variable {κ ρ s1 s2 s3 s4 s5 s6 s7 s8:Type} {r:ρ} {k:κ}
theorem Td{L:κ->s1->s2->Option ρ}{a b}(h:L k a b=some r):∃k',k'=k∧L k' a b=some r:=⟨k,rfl,h⟩
theorem JW{L:κ->s1->s2->s3->Option ρ}{a b c}(h:L k a b c=some r):∃k',k'=k∧L k' a b c=some r:=⟨k,rfl,h⟩
theorem GkD{L:κ->s1->s2->s3->s4->Option ρ}{a b c d}(h:L k a b c d=some r):∃k',k'=k∧L k' a b c d=some r:=⟨k,rfl,h⟩
theorem GkE{L:κ->s1->s2->s3->s4->s5->Option ρ}{a b c d e}(h:L k a b c d e=some r):∃k',k'=k∧L k' a b c d e=some r:=⟨k,rfl,h⟩
theorem zF{L:κ->s1->s2->s3->s4->s5->s6->Option ρ}{a b c d e f}(h:L k a b c d e f=some r):∃k',k'=k∧L k' a b c d e f=some r:=⟨k,rfl,h⟩
end
/-! ## Guards whose ways leave the world alone -/
section
variable {P:Program} {N:Nat} {Q0:Exit -> Act -> World -> Prop} {K K':KL} {w:World} {fs:List Frame} {ops:Array Oper} {l:List Oper} {Q:Exit -> Act -> World -> Prop} {Qa:Act -> Prop}
theorem DR(e:K'.map (fun p=>kl K p.1)=K'.map (fun p=>some p.2):=by rfl):TL P N ops (Ft P Q0 (.lp (fun a u=>Kn N K' a∧u=w)::fs)) [] K w:=TL.nil fun _ h=>⟨h.sub e,rfl⟩
theorem Xg(k:Nat)(is:List Nat)(j:Nat)(c:Bool){K1:KL}(hk:Ot K is [(j,.bool c)]=some K1)(h1:TL P N ops (Ft P Q0 (.lp (fun a' w'=>Kn N K1 a'∧w'=w)::fs)) (l.take k) K w)(h2:TL P N ops (Ft P Q0 fs) (l.drop k) K1 w):
 TL P N ops (Ft P Q0 fs) l K w:=TL.cutD k K1 (fun w'=>w'=w) h1 fun w' e=>e▸h2
def JI(N:Nat)(ops:Array Oper):List Oper->KL->Option KL
 |[],K=>some K
 |o::rest,K=>match FM N ops K o with
  | .yes=>match yq K o.op with
   |some v=>JI N ops rest (BT K o.dst v)
   |none=>none
  | .skip=>JI N ops rest (BT K o.dst undef)
  | .no=>none
theorem JI.ok:∀{l:List Oper} {K K':KL},JI N ops l K=some K'->TL P N ops Q [] K' w->TL P N ops Q l K w
 |[],K,K',h,q=>by obtain rfl:=Option.some.inj h;exact q
 |o::rest,K,K',h,q=>by
  simp only [JI]at h
  split at h
  ·rename_i hg
   split at h
   ·rename_i v hv;exact Yl hg (Mb hv) (JI.ok h q)
   ·cases h
  ·rename_i hg;exact Sk hg (JI.ok h q)
  ·cases h
theorem JI.okq:∀{l:List Oper} {K K':KL},JI N ops l K=some K'->QL P N ops w Qa [] K'->QL P N ops w Qa l K
 |[],K,K',h,q=>by obtain rfl:=Option.some.inj h;exact q
 |o::rest,K,K',h,q=>by
  simp only [JI]at h
  split at h
  ·rename_i hg
   split at h
   ·rename_i v hv;exact Qy hg (Mb hv) (JI.okq h q)
   ·cases h
  ·rename_i hg;exact Qs hg (JI.okq h q)
  ·cases h
theorem eE{N:Nat}{Kt K1:KL}{t j:Nat}{c x u v:Bool}(e:c=x)(t1:kl Kt t=some (.bool x))(b1:kl Kt j=some (.bool u))(uv:u=v)(e1:K1.map (fun p=>kl ((t,.bool c)::(j,.bool v)::Kt) p.1)=K1.map (fun p=>some p.2))(a:Act)(h:Kn N Kt a):Kn N K1 a:=by
 subst uv
 refine Kn.sub (Kn.know (u:=.bool x) (h.know b1 rfl) ?_ (by rw [e])) e1
 cases hb:Nat.beq j t with
 |false=>simpa [kl,hb] using t1
 |true=>obtain rfl:=Nat.eq_of_beq_eq_true hb;rw [b1]at t1;simpa [kl] using t1
section
variable {c b:Bool} {K1 Kt Kf:KL}
theorem Ws(k:Nat)(is:List Nat)(j t:Nat)(k2:TL P N ops (Ft P Q0 fs) (l.drop k) K1 w)(ha:kl K t=some (.bool c):=by rfl)
 (h1:JI N ops (l.take k) ((t,.bool true)::K)=some Kt:=by rfl) (b1:kl Kt j=some (.bool b):=by rfl) (t1:kl Kt t=some (.bool true):=by rfl)
 (h2:JI N ops (l.take k) ((t,.bool false)::K)=some Kf:=by rfl) (b2:kl Kf j=some (.bool false):=by rfl) (t2:kl Kf t=some (.bool false):=by rfl) (hk:Ot K is [(j,.bool (c&&b))]=some K1:=by rfl)
 (e1:K1.map (fun p=>kl ((t,.bool c)::(j,.bool (c&&b))::Kt) p.1)=K1.map (fun p=>some p.2):=by rfl) (e2:K1.map (fun p=>kl ((t,.bool c)::(j,.bool (c&&b))::Kf) p.1)=K1.map (fun p=>some p.2):=by rfl):TL P N ops (Ft P Q0 fs) l K w:=
 Xg k is j (c&&b) hk (Kd t ha (fun e=>JI.ok h1 (TL.nil fun a h=>⟨eE e t1 b1 (yU e) e1 a h,rfl⟩)) fun e=>JI.ok h2 (TL.nil fun a h=>⟨eE e t2 b2 (zE e) e2 a h,rfl⟩)) k2
theorem uP(k:Nat)(is:List Nat)(j t:Nat)(k2:TL P N ops (Ft P Q0 fs) (l.drop k) K1 w)(ha:kl K t=some (.bool c):=by rfl)
 (h1:JI N ops (l.take k) ((t,.bool true)::K)=some Kt:=by rfl) (b1:kl Kt j=some (.bool true):=by rfl) (t1:kl Kt t=some (.bool true):=by rfl)
 (h2:JI N ops (l.take k) ((t,.bool false)::K)=some Kf:=by rfl) (b2:kl Kf j=some (.bool b):=by rfl) (t2:kl Kf t=some (.bool false):=by rfl) (hk:Ot K is [(j,.bool (c||b))]=some K1:=by rfl)
 (e1:K1.map (fun p=>kl ((t,.bool c)::(j,.bool (c||b))::Kt) p.1)=K1.map (fun p=>some p.2):=by rfl) (e2:K1.map (fun p=>kl ((t,.bool c)::(j,.bool (c||b))::Kf) p.1)=K1.map (fun p=>some p.2):=by rfl):TL P N ops (Ft P Q0 fs) l K w:=
 Xg k is j (c||b) hk (Kd t ha (fun e=>JI.ok h1 (TL.nil fun a h=>⟨eE e t1 b1 (yW e) e1 a h,rfl⟩)) fun e=>JI.ok h2 (TL.nil fun a h=>⟨eE e t2 b2 (yS e) e2 a h,rfl⟩)) k2
theorem Hx(k:Nat)(is:List Nat)(j t:Nat)(b:Bool){c:Bool}{K1 Kx Kf:KL}(hx:Ot ((t,.bool true)::K) (t::is) [(j,.bool b)]=some Kx)(h1:TL P N ops (Ft P Q0 (.lp (fun a' w'=>Kn N Kx a'∧w'=w)::fs)) (l.take k) ((t,.bool true)::K) w)(k2:TL P N ops (Ft P Q0 fs) (l.drop k) K1 w)(ha:kl K t=some (.bool c):=by rfl)
 (h2:JI N ops (l.take k) ((t,.bool false)::K)=some Kf:=by rfl) (b2:kl Kf j=some (.bool false):=by rfl) (t2:kl Kf t=some (.bool false):=by rfl) (hk:Ot K is [(j,.bool (c&&b))]=some K1:=by rfl) (b1:kl Kx j=some (.bool b):=by rfl) (t1:kl Kx t=some (.bool true):=by rfl)
 (e1:K1.map (fun p=>kl ((t,.bool c)::(j,.bool (c&&b))::Kx) p.1)=K1.map (fun p=>some p.2):=by rfl) (e2:K1.map (fun p=>kl ((t,.bool c)::(j,.bool (c&&b))::Kf) p.1)=K1.map (fun p=>some p.2):=by rfl):TL P N ops (Ft P Q0 fs) l K w:=
 Kd t ha (fun e=>TL.cutD k Kx (fun w'=>w'=w) h1 fun w' q=>q▸fun a hK=>k2 a (eE e t1 b1 (yU e) e1 a hK)) fun e=>TL.cutD k Kf (fun w'=>w'=w) (JI.ok h2 (TL.nil fun a h=>⟨h,rfl⟩)) fun w' q=>q▸fun a hK=>k2 a (eE e t2 b2 (zE e) e2 a hK)
theorem Pq(k:Nat)(is:List Nat)(j t:Nat)(b:Bool){c:Bool}{K1 Kx Kf:KL}(hx:Ot ((t,.bool false)::K) (t::is) [(j,.bool b)]=some Kx)(h1:TL P N ops (Ft P Q0 (.lp (fun a' w'=>Kn N Kx a'∧w'=w)::fs)) (l.take k) ((t,.bool false)::K) w)(k2:TL P N ops (Ft P Q0 fs) (l.drop k) K1 w)(ha:kl K t=some (.bool c):=by rfl)
 (h2:JI N ops (l.take k) ((t,.bool true)::K)=some Kf:=by rfl) (b2:kl Kf j=some (.bool true):=by rfl) (t2:kl Kf t=some (.bool true):=by rfl) (hk:Ot K is [(j,.bool (c||b))]=some K1:=by rfl) (b1:kl Kx j=some (.bool b):=by rfl) (t1:kl Kx t=some (.bool false):=by rfl)
 (e1:K1.map (fun p=>kl ((t,.bool c)::(j,.bool (c||b))::Kx) p.1)=K1.map (fun p=>some p.2):=by rfl) (e2:K1.map (fun p=>kl ((t,.bool c)::(j,.bool (c||b))::Kf) p.1)=K1.map (fun p=>some p.2):=by rfl):TL P N ops (Ft P Q0 fs) l K w:=
 Kd t ha (fun e=>TL.cutD k Kf (fun w'=>w'=w) (JI.ok h2 (TL.nil fun a h=>⟨h,rfl⟩)) fun w' q=>q▸fun a hK=>k2 a (eE e t2 b2 (yW e) e2 a hK)) fun e=>TL.cutD k Kx (fun w'=>w'=w) h1 fun w' q=>q▸fun a hK=>k2 a (eE e t1 b1 (yS e) e1 a hK)
theorem bB(k:Nat)(is:List Nat)(j t:Nat)(b:Bool){c:Bool}{K1 Kx Kf:KL}(hx:Ot ((t,.bool true)::K) (t::is) [(j,.bool b)]=some Kx)(h1:QL P N ops w (fun a'=>Kn N Kx a') (l.take k) ((t,.bool true)::K))(k2:QL P N ops w Qa (l.drop k) K1)(ha:kl K t=some (.bool c):=by rfl)
 (h2:JI N ops (l.take k) ((t,.bool false)::K)=some Kf:=by rfl) (b2:kl Kf j=some (.bool false):=by rfl) (t2:kl Kf t=some (.bool false):=by rfl) (hk:Ot K is [(j,.bool (c&&b))]=some K1:=by rfl) (b1:kl Kx j=some (.bool b):=by rfl) (t1:kl Kx t=some (.bool true):=by rfl)
 (e1:K1.map (fun p=>kl ((t,.bool c)::(j,.bool (c&&b))::Kx) p.1)=K1.map (fun p=>some p.2):=by rfl) (e2:K1.map (fun p=>kl ((t,.bool c)::(j,.bool (c&&b))::Kf) p.1)=K1.map (fun p=>some p.2):=by rfl):QL P N ops w Qa l K:=
 Kdq t ha (fun e=>QL.cut k Kx h1 fun a hK=>k2 a (eE e t1 b1 (yU e) e1 a hK)) fun e=>QL.cut k Kf (JI.okq h2 (QL.nil fun a h=>h)) fun a hK=>k2 a (eE e t2 b2 (zE e) e2 a hK)
end
theorem Fb{β:Type}{A:Option Bool}{g:Bool->Option β}{r:β}{c:Bool}{K1 Kx:Bool->KL}{Kf:KL}(k:Nat)(is:List Nat)(j t:Nat)(hF:Option.bind (bif c then A else some false) g=some r)(h1:∀b,A=some b->TL P N ops (Ft P Q0 (.lp (fun a' w'=>Kn N (Kx b) a'∧AD w w')::fs)) (l.take k) ((t,.bool true)::K) w)(k2:∀b,g b=some r->∀w',AD w w'->TL P N ops (Ft P Q0 fs) (l.drop k) (K1 b) w')(ha:kl K t=some (.bool c):=by rfl)
 (hx:∀b,Ot ((t,.bool true)::K) (t::is) [(j,.bool b)]=some (Kx b):=by intro _;rfl) (hk:∀b,Ot K is [(j,.bool b)]=some (K1 b):=by intro _;rfl) (h2:JI N ops (l.take k) ((t,.bool false)::K)=some Kf:=by rfl)
 (t1:∀b,kl (Kx b) t=some (.bool true):=by intro _;rfl) (t2:kl Kf t=some (.bool false):=by rfl)
 (e1:∀b,(K1 b).map (fun p=>kl ((t,.bool c)::Kx b) p.1)=(K1 b).map (fun p=>some p.2):=by intro _;rfl) (e2:(K1 false).map (fun p=>kl ((t,.bool c)::Kf) p.1)=(K1 false).map (fun p=>some p.2):=by rfl):TL P N ops (Ft P Q0 fs) l K w:=by
 obtain⟨b,hb,h3⟩:=AM hF
 refine Kd t ha (fun e=>?_) fun e=>?_
 ·replace hb:=Oo e hb;exact TL.cutD k (Kx b) (fun w'=>AD w w') (h1 b hb) fun w' q a hK=>k2 b h3 w' q a ((hK.know (t1 b) (by rw [e])).sub (e1 b))
 ·replace hb:=Nu e hb;obtain rfl:=Sy hb;exact TL.cutD k Kf (fun w'=>AD w w') (JI.ok h2 (TL.nil fun a h=>⟨h,AD.refl _⟩)) fun w' q a hK=>k2 _ h3 w' q a ((hK.know t2 (by rw [e])).sub e2)
theorem MH{β:Type}{A:Option Bool}{g:Bool->Option β}{r:β}{c:Bool}{K1 Kx:Bool->KL}{Kf:KL}(k:Nat)(is:List Nat)(j t:Nat)(hF:Option.bind (bif c then some true else A) g=some r)(h1:∀b,A=some b->TL P N ops (Ft P Q0 (.lp (fun a' w'=>Kn N (Kx b) a'∧AD w w')::fs)) (l.take k) ((t,.bool false)::K) w)(k2:∀b,g b=some r->∀w',AD w w'->TL P N ops (Ft P Q0 fs) (l.drop k) (K1 b) w')(ha:kl K t=some (.bool c):=by rfl)
 (hx:∀b,Ot ((t,.bool false)::K) (t::is) [(j,.bool b)]=some (Kx b):=by intro _;rfl) (hk:∀b,Ot K is [(j,.bool b)]=some (K1 b):=by intro _;rfl) (h2:JI N ops (l.take k) ((t,.bool true)::K)=some Kf:=by rfl)
 (t1:∀b,kl (Kx b) t=some (.bool false):=by intro _;rfl) (t2:kl Kf t=some (.bool true):=by rfl)
 (e1:∀b,(K1 b).map (fun p=>kl ((t,.bool c)::Kx b) p.1)=(K1 b).map (fun p=>some p.2):=by intro _;rfl) (e2:(K1 true).map (fun p=>kl ((t,.bool c)::Kf) p.1)=(K1 true).map (fun p=>some p.2):=by rfl):TL P N ops (Ft P Q0 fs) l K w:=by
 obtain⟨b,hb,h3⟩:=AM hF
 refine Kd t ha (fun e=>?_) fun e=>?_
 ·replace hb:=Oo e hb;obtain rfl:=Sy hb;exact TL.cutD k Kf (fun w'=>AD w w') (JI.ok h2 (TL.nil fun a h=>⟨h,AD.refl _⟩)) fun w' q a hK=>k2 _ h3 w' q a ((hK.know t2 (by rw [e])).sub e2)
 ·replace hb:=Nu e hb;exact TL.cutD k (Kx b) (fun w'=>AD w w') (h1 b hb) fun w' q a hK=>k2 b h3 w' q a ((hK.know (t1 b) (by rw [e])).sub (e1 b))
theorem He{β:Type}{A:Option Bool}{g:Bool->Option β}{r:β}{c:Bool}{K1 Kx:Bool->KL}{Kf:KL}(k:Nat)(is:List Nat)(j t:Nat)(hF:Option.bind (bif c then A else some false) g=some r)(h1:∀b,A=some b->TL P N ops (Ft P Q0 (.lp (fun a' w'=>Kn N (Kx b) a'∧w'=w)::fs)) (l.take k) ((t,.bool true)::K) w)(k2:∀b,g b=some r->TL P N ops (Ft P Q0 fs) (l.drop k) (K1 b) w)(ha:kl K t=some (.bool c):=by rfl)
 (hx:∀b,Ot ((t,.bool true)::K) (t::is) [(j,.bool b)]=some (Kx b):=by intro _;rfl) (hk:∀b,Ot K is [(j,.bool b)]=some (K1 b):=by intro _;rfl) (h2:JI N ops (l.take k) ((t,.bool false)::K)=some Kf:=by rfl)
 (t1:∀b,kl (Kx b) t=some (.bool true):=by intro _;rfl) (t2:kl Kf t=some (.bool false):=by rfl)
 (e1:∀b,(K1 b).map (fun p=>kl ((t,.bool c)::Kx b) p.1)=(K1 b).map (fun p=>some p.2):=by intro _;rfl) (e2:(K1 false).map (fun p=>kl ((t,.bool c)::Kf) p.1)=(K1 false).map (fun p=>some p.2):=by rfl):TL P N ops (Ft P Q0 fs) l K w:=by
 obtain⟨b,hb,h3⟩:=AM hF
 refine Kd t ha (fun e=>?_) fun e=>?_
 ·replace hb:=Oo e hb;exact TL.cutD k (Kx b) (fun w'=>w'=w) (h1 b hb) fun w' q=>q▸fun a hK=>k2 b h3 a ((hK.know (t1 b) (by rw [e])).sub (e1 b))
 ·replace hb:=Nu e hb;obtain rfl:=Sy hb;exact TL.cutD k Kf (fun w'=>w'=w) (JI.ok h2 (TL.nil fun a h=>⟨h,rfl⟩)) fun w' q=>q▸fun a hK=>k2 _ h3 a ((hK.know t2 (by rw [e])).sub e2)
theorem PH{β:Type}{A:Option Bool}{g:Bool->Option β}{r:β}{c:Bool}{K1 Kx:Bool->KL}{Kf:KL}(k:Nat)(is:List Nat)(j t:Nat)(hF:Option.bind (bif c then some true else A) g=some r)(h1:∀b,A=some b->TL P N ops (Ft P Q0 (.lp (fun a' w'=>Kn N (Kx b) a'∧w'=w)::fs)) (l.take k) ((t,.bool false)::K) w)(k2:∀b,g b=some r->TL P N ops (Ft P Q0 fs) (l.drop k) (K1 b) w)(ha:kl K t=some (.bool c):=by rfl)
 (hx:∀b,Ot ((t,.bool false)::K) (t::is) [(j,.bool b)]=some (Kx b):=by intro _;rfl) (hk:∀b,Ot K is [(j,.bool b)]=some (K1 b):=by intro _;rfl) (h2:JI N ops (l.take k) ((t,.bool true)::K)=some Kf:=by rfl)
 (t1:∀b,kl (Kx b) t=some (.bool false):=by intro _;rfl) (t2:kl Kf t=some (.bool true):=by rfl)
 (e1:∀b,(K1 b).map (fun p=>kl ((t,.bool c)::Kx b) p.1)=(K1 b).map (fun p=>some p.2):=by intro _;rfl) (e2:(K1 true).map (fun p=>kl ((t,.bool c)::Kf) p.1)=(K1 true).map (fun p=>some p.2):=by rfl):TL P N ops (Ft P Q0 fs) l K w:=by
 obtain⟨b,hb,h3⟩:=AM hF
 refine Kd t ha (fun e=>?_) fun e=>?_
 ·replace hb:=Oo e hb;obtain rfl:=Sy hb;exact TL.cutD k Kf (fun w'=>w'=w) (JI.ok h2 (TL.nil fun a h=>⟨h,rfl⟩)) fun w' q=>q▸fun a hK=>k2 _ h3 a ((hK.know t2 (by rw [e])).sub e2)
 ·replace hb:=Nu e hb;exact TL.cutD k (Kx b) (fun w'=>w'=w) (h1 b hb) fun w' q=>q▸fun a hK=>k2 b h3 a ((hK.know (t1 b) (by rw [e])).sub (e1 b))
theorem KH{β:Type}{A:Option Bool}{g:Bool->Option β}{r:β}{c:Bool}{K1 Kx:Bool->KL}{Kf:KL}(k:Nat)(is:List Nat)(j t:Nat)(hF:Option.bind (bif c then A else some false) g=some r)(h1:∀b,A=some b->QL P N ops w (fun a'=>Kn N (Kx b) a') (l.take k) ((t,.bool true)::K))(k2:∀b,g b=some r->QL P N ops w Qa (l.drop k) (K1 b))(ha:kl K t=some (.bool c):=by rfl)
 (hx:∀b,Ot ((t,.bool true)::K) (t::is) [(j,.bool b)]=some (Kx b):=by intro _;rfl) (hk:∀b,Ot K is [(j,.bool b)]=some (K1 b):=by intro _;rfl) (h2:JI N ops (l.take k) ((t,.bool false)::K)=some Kf:=by rfl)
 (t1:∀b,kl (Kx b) t=some (.bool true):=by intro _;rfl) (t2:kl Kf t=some (.bool false):=by rfl)
 (e1:∀b,(K1 b).map (fun p=>kl ((t,.bool c)::Kx b) p.1)=(K1 b).map (fun p=>some p.2):=by intro _;rfl) (e2:(K1 false).map (fun p=>kl ((t,.bool c)::Kf) p.1)=(K1 false).map (fun p=>some p.2):=by rfl):QL P N ops w Qa l K:=by
 obtain⟨b,hb,h3⟩:=AM hF
 refine Kdq t ha (fun e=>?_) fun e=>?_
 ·replace hb:=Oo e hb;exact QL.cut k (Kx b) (h1 b hb) fun a hK=>k2 b h3 a ((hK.know (t1 b) (by rw [e])).sub (e1 b))
 ·replace hb:=Nu e hb;obtain rfl:=Sy hb;exact QL.cut k Kf (JI.okq h2 (QL.nil fun a h=>h)) fun a hK=>k2 _ h3 a ((hK.know t2 (by rw [e])).sub e2)
theorem Mz{β:Type}{A:Option Bool}{g:Bool->Option β}{r:β}{c:Bool}{K1 Kx:Bool->KL}{Kf:KL}(k:Nat)(is:List Nat)(j t:Nat)(hF:Option.bind (bif c then some true else A) g=some r)(h1:∀b,A=some b->QL P N ops w (fun a'=>Kn N (Kx b) a') (l.take k) ((t,.bool false)::K))(k2:∀b,g b=some r->QL P N ops w Qa (l.drop k) (K1 b))(ha:kl K t=some (.bool c):=by rfl)
 (hx:∀b,Ot ((t,.bool false)::K) (t::is) [(j,.bool b)]=some (Kx b):=by intro _;rfl) (hk:∀b,Ot K is [(j,.bool b)]=some (K1 b):=by intro _;rfl) (h2:JI N ops (l.take k) ((t,.bool true)::K)=some Kf:=by rfl)
 (t1:∀b,kl (Kx b) t=some (.bool false):=by intro _;rfl) (t2:kl Kf t=some (.bool true):=by rfl)
 (e1:∀b,(K1 b).map (fun p=>kl ((t,.bool c)::Kx b) p.1)=(K1 b).map (fun p=>some p.2):=by intro _;rfl) (e2:(K1 true).map (fun p=>kl ((t,.bool c)::Kf) p.1)=(K1 true).map (fun p=>some p.2):=by rfl):QL P N ops w Qa l K:=by
 obtain⟨b,hb,h3⟩:=AM hF
 refine Kdq t ha (fun e=>?_) fun e=>?_
 ·replace hb:=Oo e hb;obtain rfl:=Sy hb;exact QL.cut k Kf (JI.okq h2 (QL.nil fun a h=>h)) fun a hK=>k2 _ h3 a ((hK.know t2 (by rw [e])).sub e2)
 ·replace hb:=Nu e hb;exact QL.cut k (Kx b) (h1 b hb) fun a hK=>k2 b h3 a ((hK.know (t1 b) (by rw [e])).sub (e1 b))
end
/-! ## Pointers against nil -/
theorem TC{P:Program}{t e:TypeId}{a:Option Addr}{w:World}(ht:P.underlying t=some (.pointer e)):(Op.equal t (.pointer a) (.pointer none)).run P w= .ok a.isNone w:=by
 simp only [Op.equal,Op.maxDepth]
 rw [show(10000:Nat)=9999+1 from rfl,Op.equalIn]
 cases a<;>simp [run_underlying ht]
theorem fK{P:Program}{N:Nat}{K:KL}{o:Oper}{w:World}{t x y u e}{a:Option Addr}(ho:o.op= .binOp .neq t x y u)(ht:P.underlying t=some (.pointer e))(hx:CL K x=some (.pointer a))(hy:CL K y=some (.pointer none)):Ec P N K o w (.bool (!a.isNone)):=by
 intro b hK w' _
 simp [execOp,ho,hK.ev hx,hK.ev hy,eqGuard,binOp,TC ht]
theorem Su{P:Program}{N:Nat}{K:KL}{w:World}{fn:Func}{p ty b T:Nat}{us:List Value}{R:Ending->World->Prop}(hb:Ae w b us T)(ha:Bj P ty=some true)(hn:Ar P ty=some us.length)(hR:R (.returned (.agg us.toArray)) w)
 (hr:fn.results=List.toArray [.cell p ty]:=by rfl) (hk:kl K p=some (.pointer (some ⟨b,0,none⟩)):=by rfl):NX N (bodyPost P fn R) .ret K w:=
 NX.end (vs:=[.agg us.toArray]) hr ⟨⟨b,hk,Bi ha hn hb⟩,trivial⟩ hR
end Go.Eng
namespace Go.Eng
open Go Go.RowKit
/-! ## Code in a round's frame, and behind a range over a function -/
def Wq:Option Nat->Fence
 |none=>Fence.wide
 |some l=>Fence.wide.inRound l
theorem TA(r:Option Nat)(f:FuncId):(Wq r).fn f:=by cases r<;>exact trivial
theorem Xc(r:Option Nat)(n:Nat):(Wq r).depth.isSome=true->1<=n:=by cases r<;>intro h<;>cases h
theorem Wi{P:Program}{r:Option Nat}{n:Nat}{f:FuncId}{args:Array Value}{w:World}{R:Ending->World->Prop}(h:Calls P f args w R):CallsIn (Wq r) n P f args w R:=by
 have h2:CallsIn Fence.wide n P f args w R:=callsIn_wide.2 h
 cases r with
 |none=>exact h2
 |some l=>exact CallsIn.inRound l h2
theorem dP{P:Program}{r:Option Nat}{n:Nat}{row:String}{args:Array Value}{w:World}{R:Value->World->Prop}(h:Rows P row args w R):RowsIn (Wq r) n P row args w R:=by
 have h2:RowsIn Fence.wide n P row args w R:=fun c cs _=>by
  obtain⟨v,w',hr,hs⟩:=h c cs
  exact⟨v,w',hr,stepsIn_wide.2 hs⟩
 cases r with
 |none=>exact h2
 |some l=>exact h2
def DQ(Q:Exit->Act->World->Prop)(ds:List Deferred):Exit->Act->World->Prop:=fun e a w=>a.defers=[]∧e≠ .outgrown∧Q e { a with defers:=ds } w
def kC(o:Oper):Bool:=match o.op with
 | .defer _=>false
 |_=>true
theorem FD(a:Act)(d:Option Tmp)(v:Value):(a.put d v).defers=a.defers:=by cases d<;>rfl
theorem Hw(a:Act)(ds:List Deferred)(d:Option Tmp)(v:Value):({ a with defers:=ds }:Act).put d v={ a.put d v with defers:=ds }:=by cases d<;>rfl
def Wo(Q1 Q:Exit->Act->World->Prop)(ds:List Deferred):Prop:=∀e a w,Q1 e a w->a.defers=[]∧e≠ .outgrown∧Q e { a with defers:=ds } w
theorem AbR{Q:Exit->Act->World->Prop}{ds:List Deferred}:Wo (DQ Q ds) Q ds:=fun _ _ _ h=>h
theorem AcL{Q:Exit->Act->World->Prop}{ds:List Deferred}:Wo (noPan (DQ Q ds)) Q ds:=fun e _ _ h=>by cases e<;>first|exact h|exact h.elim
section
variable {P:Program} {Q Q1:Exit -> Act -> World -> Prop} {ds:List Deferred} {r:Option Nat} {n:Nat}
theorem Wo.out(q:Wo Q1 Q ds):¬LetsOut Q1:=fun⟨_,_,h⟩=>(q _ _ _ h).2.1 rfl
theorem Ub(q:Wo Q1 Q ds){o:Oper}{a:Act}{w:World}{K:Act->World->Prop}(ha:a.defers≠[])(hK:∀a' w',a'.defers≠[]->K a' w'->False)(h:o.wp P a w K Q1):False:=by
 unfold Oper.wp at h
 generalize (execOp a.eval o).run P w=x at h
 cases x with
 |ok v w'=>
  cases v with
  |value v=>exact hK _ _ (by rw [FD];exact ha) h
  |skip=>exact hK _ _ (by rw [FD];exact ha) h
  |defer d=>exact hK _ _ (by rw [FD];exact List.cons_ne_nil _ _) h
  |enter f args=>
   obtain⟨e,w'',_,hR,_⟩:=h []
   cases e with
   |returned v=>exact hK _ _ (by rw [FD];exact ha) hR
   |panicked c=>exact ha (q _ _ _ hR).1
   |outgrown=>exact q.out hR
  |row row args=>
   obtain⟨v,w'',hR,_⟩:=h default []
   exact hK _ _ (by rw [FD];exact ha) hR
  |_=>exact h
 |halt e w'=>
  cases e with
  |panic v=>exact ha (q _ _ _ h).1
  |_=>exact h
theorem kS(q:Wo Q1 Q ds){o:Oper}{a:Act}{w:World}{K K':Act->World->Prop}(ho:kC o=true)(ha:a.defers=[])(hd:∀a' w',a'.defers≠[]->K a' w'->False)
 (hK:∀a' w',a'.defers=[]->K a' w'->K' { a' with defers:=ds } w') (h:o.wp P a w K Q1):o.wpIn (Wq r) n P { a with defers:=ds } w K' Q:=by
 refine⟨fun f _=>TA r f,?_⟩
 have hs:o.semAt (Wq r).round ({ a with defers:=ds }:Act).eval=execOp a.eval o:=by
  rw [Oper.semAt_eq _ _ _ (fun c hc=>by unfold kC at ho;rw [hc]at ho;cases ho)];rfl
 rw [hs]
 unfold Oper.wp at h
 generalize (execOp a.eval o).run P w=x at h
 cases x with
 |ok v w'=>
  cases v with
  |value v=>show K' (({ a with defers:=ds }:Act).put o.dst v) w';rw [Hw];exact hK _ _ (by rw [FD];exact ha) h
  |skip=>show K' (({ a with defers:=ds }:Act).put o.dst undef) w';rw [Hw];exact hK _ _ (by rw [FD];exact ha) h
  |defer d=>exact absurd h fun h=>hd _ _ (by rw [FD];exact List.cons_ne_nil _ _) h
  |enter f args=>
   refine⟨Xc r n,(Wi h).mono fun e w'' hR=>?_⟩
   cases e with
   |returned v=>show K' (({ a with defers:=ds }:Act).put o.dst v) w'';rw [Hw];exact hK _ _ (by rw [FD];exact ha) hR
   |panicked c=>exact(q _ _ _ hR).2.2
   |outgrown=>exact(q.out hR).elim
  |row row args=>
   refine⟨Xc r n,(dP h).mono fun v w'' hR=>?_⟩
   rw [Hw];exact hK _ _ (by rw [FD];exact ha) hR
  |_=>exact h.elim
 |halt e w'=>
  cases e with
  |panic v=>exact(q _ _ _ h).2.2
  |_=>exact h
variable {ops:Array Oper}
theorem Mq(q:Wo Q1 Q ds):∀{l:List Oper} {a:Act} {w:World},a.defers≠[]->wpList P ops Q1 l a w->False
 |[],a,w,ha,h=>ha (q _ _ _ h).1
 |o::l,a,w,ha,h=>by
  unfold wpList at h
  split at h
  ·rcases h with h|⟨_,h⟩
   ·exact Ub q ha (fun a' w' h1 h2=>Mq q h1 h2) h
   ·exact q.out h
  ·exact Mq q (by rw [FD];exact ha) h
theorem QJ(q:Wo Q1 Q ds):∀{l:List Oper} {a:Act} {w:World},l.all kC=true->a.defers=[]->wpList P ops Q1 l a w->wpListIn (Wq r) n P ops Q l { a with defers:=ds } w
 |[],a,w,_,ha,h=>(q _ _ _ h).2.2
 |o::l,a,w,hn,ha,h=>by
  rw [List.all_cons,Bool.and_eq_true]at hn
  unfold wpList at h
  unfold wpListIn
  split at h
  ·rename_i hw
   rw [if_pos hw]
   rcases h with h|⟨_,h⟩
   ·exact kS q hn.1 ha (fun a' w' h1 h2=>Mq q h1 h2) (fun a' w' h1 h2=>QJ q hn.2 h1 h2) h
   ·exact(q.out h).elim
  ·rename_i hw
   rw [if_neg hw]
   refine⟨fun f _=>TA r f,?_⟩
   rw [Hw];exact QJ q hn.2 (by rw [FD];exact ha) h
theorem fP(q:Wo Q1 Q ds){i:Nat}{a:Act}{w:World}{K:Act->World->Prop}(ha:a.defers≠[])(hK:∀a' w',a'.defers≠[]->K a' w'->False)(h:wpOp P ops Q1 i K a w):False:=by
 unfold wpOp at h
 split at h
 ·exact hK _ _ ha h
 ·split at h
  ·rcases h with h|⟨_,h⟩
   ·exact Ub q ha hK h
   ·exact q.out h
  ·exact hK _ _ (by rw [FD];exact ha) h
theorem RI(q:Wo Q1 Q ds):∀{f:Nat} {listed:Array Bool} {a:Act} {w:World},a.defers≠[]->wpAny P .any ops Q1 f listed a w->False
 |0,listed,a,w,ha,h=>ha (q _ _ _ h.2).1
 |f+1,listed,a,w,ha,h=>by
  obtain⟨h1,h2⟩:=h
  cases hr:Region.ready .any ops listed with
  |nil=>exact ha (q _ _ _ (h1 hr)).1
  |cons i l=>exact fP q ha (fun a' w' k1 k2=>RI q k1 k2) (h2 i (by rw [hr];exact List.mem_cons_self))
theorem vG(q:Wo Q1 Q ds){i:Nat}{a:Act}{w:World}{K K':Act->World->Prop}(hn:ops.toList.all kC=true)(ha:a.defers=[])(hd:∀a' w',a'.defers≠[]->K a' w'->False)
 (hK:∀a' w',a'.defers=[]->K a' w'->K' { a' with defers:=ds } w') (h:wpOp P ops Q1 i K a w):wpOpIn (Wq r) n P ops Q i K' { a with defers:=ds } w:=by
 unfold wpOp at h
 unfold wpOpIn
 cases ho:ops[i]? with
 |none=>rw [ho]at h;exact hK _ _ ha h
 |some o=>
  rw [ho]at h
  have h:if Region.wanted o (yielded ops a.tmps)then o.wp P a w K Q1∨(o.asks P a w∧LetsOut Q1)else K (a.put o.dst undef) w:=h
  show if Region.wanted o (yielded ops a.tmps)then _ else _
  have hm:o∈ops.toList:=by
   obtain⟨h1,h2⟩:=Array.getElem?_eq_some_iff.1 ho
   rw [←h2];exact Array.getElem_mem_toList h1
  have hno:=List.all_eq_true.1 hn o hm
  split at h
  ·rename_i hw
   rw [if_pos hw]
   rcases h with h|⟨_,h⟩
   ·exact kS q hno ha hd hK h
   ·exact(q.out h).elim
  ·rename_i hw
   rw [if_neg hw]
   refine⟨fun f _=>TA r f,?_⟩
   rw [Hw];exact hK _ _ (by rw [FD];exact ha) h
theorem bQ(q:Wo Q1 Q ds)(hn:ops.toList.all kC=true):∀{f:Nat} {listed:Array Bool} {a:Act} {w:World},a.defers=[]->wpAny P .any ops Q1 f listed a w->wpAnyIn (Wq r) n P .any ops Q f listed { a with defers:=ds } w
 |0,listed,a,w,ha,h=>⟨h.1,(q _ _ _ h.2).2.2⟩
 |f+1,listed,a,w,ha,h=>⟨fun e=>(q _ _ _ (h.1 e)).2.2,fun i hi=>vG q hn ha (fun a' w' k1 k2=>RI q k1 k2) (fun a' w' k1 k2=>bQ q hn k1 k2) (h.2 i hi)⟩
end
def WX(P:Program)(N:Nat)(r:Option Nat)(n:Nat)(ds:List Deferred)(c:Code)(Q:Exit->Act->World->Prop)(K:KL)(w:World):Prop:=
 ∀a,Kn N K a->c.wpIn (Wq r) n P Q { a with defers:=ds } w
def NY(N:Nat)(ds:List Deferred)(Q:Exit->Act->World->Prop)(e:Exit)(K:KL)(w:World):Prop:=∀a,Kn N K a->Q e { a with defers:=ds } w
section
variable {P:Program} {N:Nat} {r:Option Nat} {n:Nat} {ds:List Deferred} {Q:Exit -> Act -> World -> Prop} {K:KL} {w:World}
theorem WX.seq{x y:Code}(h:WX P N r n ds x (Exit.then (fun a' w'=>y.wpIn (Wq r) n P Q a' w') Q) K w):WX P N r n ds (.seq x y) Q K w:=fun a hK=>wpIn_seq (h a hK)
theorem WX.region{id:Nat}{l:List Oper}(hn:l.all kC=true)(h:TL P N l.toArray (DQ Q ds) l K w):WX P N r n ds (.region id l.toArray false) Q K w:=fun a hK=>wpIn_region_lit (QJ AbR hn hK.df (h a hK))
theorem WX.block{id:Nat}{c:Code}(h:WX P N r n ds c (Exit.inBlock id Q) K w):WX P N r n ds (.block id c) Q K w:=fun a hK=>wpIn_block (h a hK)
theorem WX.skip(h:NY N ds Q .normal K w):WX P N r n ds .skip Q K w:=fun a hK=>wpIn_skip (h a hK)
theorem WX.exit{id:Nat}(h:NY N ds Q (.exit id) K w):WX P N r n ds (.exit id) Q K w:=fun a hK=>wpIn_exit (h a hK)
theorem WX.ret(h:NY N ds Q .ret K w):WX P N r n ds .ret Q K w:=fun a hK=>wpIn_ret (h a hK)
theorem WX.cond{c:Operand}{x y:Code}{t:Bool}(hc:CL K c=some (.bool t))(ht:t=true->WX P N r n ds x Q K w)(hf:t=false->WX P N r n ds y Q K w):WX P N r n ds (.cond c x y) Q K w:=
 fun a hK=>wpIn_cond_split (a:={ a with defers:=ds }) (hK.ev hc) (fun h=>ht h a hK) (fun h=>hf h a hK)
theorem WX.heldG{p:Nat->Prop}{id:Nat}{l:List Oper}(m:Nat)(hm:P.follows .mixedOrders=true)(hn:l.all kC=true)
 (h:∀w',AD w w'->JG P N l.toArray m (noPan (DQ Q ds)) p w' l.length (Array.replicate l.length false) K w'):WX P N r n ds (.region id l.toArray true) Q K w:=by
 intro a hK
 have inv0:HeadInv .any l.toArray m (Array.replicate l.length false):=
  ⟨by simp,fun j oj _ hl=>(by rw [getD_replicate_false]at hl;cases hl),fun t _ ht=>getD_in (by simpa using ht) (getD_replicate_false _ _)⟩
 have h1:=Cb.any _ _ _ _ (h w.drew (AD.drew w) (by simpa using inv0) (CW.refl p _) a hK)
 refine wpIn_region_any hm ?_
 exact bQ AcL (by simpa using hn) hK.df (by simpa using h1)
end
section
variable (P:Program) (N:Nat) (r:Option Nat) (n0:Nat) (ds:List Deferred) (Q0:Exit -> Act -> World -> Prop)
def OT:List Frame->Exit->Act->World->Prop
 |[]=>Q0
 | .seq c::fs=>Exit.then (fun a w=>c.wpIn (Wq r) n0 P (OT fs) a w) (OT fs)
 | .blk id::fs=>Exit.inBlock id (OT fs)
 | .lp f::fs=>Exit.then f (OT fs)
def Oy(m:Md)(fs:List Frame)(K:KL)(w:World):Prop:=match m with
 | .c c=>WX P N r n0 ds c (OT P r n0 Q0 fs) K w
 | .o ops l=>TL P N ops (DQ (OT P r n0 Q0 fs) ds) l K w
 | .e e=>NY N ds (OT P r n0 Q0 fs) e K w
def EN:Nat->Md->List Frame->KL->World->Prop
 |0=>fun m fs K w=>Oy P N r n0 ds Q0 m fs K w
 |n+1=>fun m fs K w=>match m with
  | .c c=>match c with
   | .seq x y=>EN n (.c x) (.seq y::fs) K w
   | .region _ ops false=>match ops.toList.all kC with
    |true=>EN n (.o ops ops.toList) fs K w
    |false=>False
   | .block id x=>EN n (.c x) (.blk id::fs) K w
   | .skip=>EN n (.e .normal) fs K w
   | .exit id=>EN n (.e (.exit id)) fs K w
   | .ret=>EN n (.e .ret) fs K w
   |_=>False
  | .o ops l=>match l with
   |[]=>EN n (.e .normal) fs K w
   |o::rest=>match FM N ops K o with
    | .yes=>match yq K o.op with
     |some v=>EN n (.o ops rest) fs (BT K o.dst v) w
     |none=>False
    | .skip=>EN n (.o ops rest) fs (BT K o.dst undef) w
    | .no=>False
  | .e e=>match fs with
   |[]=>False
   | .seq c::fs=>match e with
    | .normal=>EN n (.c c) fs K w
    | .ret=>EN n (.e .ret) fs K w
    | .exit id=>EN n (.e (.exit id)) fs K w
    |_=>False
   | .blk id::fs=>match e with
    | .normal=>EN n (.e .normal) fs K w
    | .ret=>EN n (.e .ret) fs K w
    | .exit id'=>bif Nat.beq id' id then EN n (.e .normal) fs K w else EN n (.e (.exit id')) fs K w
    |_=>False
   | .lp _::_=>False
end
section
variable {P:Program} {N:Nat} {r:Option Nat} {n0:Nat} {ds:List Deferred} {Q0:Exit -> Act -> World -> Prop}
theorem NY.of_out{Q:Exit->Act->World->Prop}{K:KL}{w:World}(h:NY N ds Q .normal K w):∀a,Kn N K a->DQ Q ds .normal a w:=fun a hK=>⟨hK.df,by simp,h a hK⟩
theorem EN.ok:∀(n:Nat) {m:Md} {fs:List Frame} {K:KL} {w:World},EN P N r n0 ds Q0 n m fs K w->Oy P N r n0 ds Q0 m fs K w
 |0,_,_,_,_,h=>h
 |n+1,m,fs,K,w,h=>by
  cases m with
  |c c=>
   cases c with
   |seq x y=>exact WX.seq (EN.ok n h)
   |region id ops d=>
    cases d with
    |false=>
     simp only [EN]at h
     split at h
     case h_2=>exact h.elim
     rename_i h1
     have h2:TL P N ops (DQ (OT P r n0 Q0 fs) ds) ops.toList K w:=EN.ok n h
     show WX P N r n0 ds (.region id ops false) (OT P r n0 Q0 fs) K w
     have:ops=ops.toList.toArray:=by simp
     rw [this];rw [this]at h2
     exact WX.region (by simpa using h1) (by simpa using h2)
    |true=>exact h.elim
   |block id x=>exact WX.block (EN.ok n h)
   |skip=>exact WX.skip (EN.ok n h)
   |exit id=>exact WX.exit (EN.ok n h)
   |ret=>exact WX.ret (EN.ok n h)
   |cond _ _ _=>exact h.elim
   |loop _=>exact h.elim
   |_=>exact h.elim
  |o ops l=>
   cases l with
   |nil=>exact TL.nil (NY.of_out (EN.ok n h:Oy P N r n0 ds Q0 (.e .normal) fs K w))
   |cons o rest=>
    simp only [EN]at h
    split at h
    ·rename_i hg
     split at h
     ·rename_i v hv;exact Yl hg (Mb hv) (EN.ok n h)
     ·exact h.elim
    ·rename_i hg;exact Sk hg (EN.ok n h)
    ·exact h.elim
  |e e=>
   cases fs with
   |nil=>exact h.elim
   |cons f fs=>
    cases f with
    |seq c=>
     cases e with
     |normal=>exact(EN.ok n h:Oy P N r n0 ds Q0 (.c c) fs K w)
     |ret=>exact(EN.ok n h:Oy P N r n0 ds Q0 (.e .ret) fs K w)
     |exit id=>exact(EN.ok n h:Oy P N r n0 ds Q0 (.e (.exit id)) fs K w)
     |_=>exact h.elim
    |blk id=>
     cases e with
     |normal=>exact(EN.ok n h:Oy P N r n0 ds Q0 (.e .normal) fs K w)
     |ret=>exact(EN.ok n h:Oy P N r n0 ds Q0 (.e .ret) fs K w)
     |exit id'=>
      simp only [EN]at h
      cases hb:Nat.beq id' id with
      |true=>
       rw [hb]at h
       obtain rfl:=Nat.eq_of_beq_eq_true hb
       have h2:Oy P N r n0 ds Q0 (.e .normal) fs K w:=EN.ok n h
       intro a hK
       have:=h2 a hK
       simpa [OT,Exit.inBlock] using this
      |false=>
       rw [hb]at h
       have h2:Oy P N r n0 ds Q0 (.e (.exit id')) fs K w:=EN.ok n h
       intro a hK
       have:=h2 a hK
       have hne:id'≠id:=fun e=>by rw [e]at hb;simp at hb
       simpa [OT,Exit.inBlock,hne] using this
     |_=>exact h.elim
    |lp f=>exact h.elim
variable {K:KL} {w:World} {fs:List Frame} {ops:Array Oper}
end
/-! ## A range over slices.Backward -/
def Ob(w:World)(k:Nat)(o:Obj):Prop:=w.heap[k]? =some o
theorem Ob.lt{w:World}{k:Nat}{o:Obj}(h:Ob w k o):k<w.heap.size:=(Array.getElem?_eq_some_iff.1 h).1
theorem Ob.ext{w w':World}{k:Nat}{o:Obj}(h:Ob w k o)(he:AD w w'):Ob w' k o:=by unfold Ob;rw [he.block k h.lt];exact h
theorem Ob.upd{w w':World}{k c:Nat}{o:Obj}(h:Ob w k o)(he:El c w w')(hne:k≠c):Ob w' k o:=by unfold Ob;rw [he.block k hne];exact h
theorem Ob.but{p:Nat->Prop}{w w':World}{k:Nat}{o:Obj}(h:Ob w k o)(he:CW p w w')(hne:∀j,p j->j≠k):Ob w' k o:=by unfold Ob;rw [he.block k h.lt (fun e=>hne k e rfl)];exact h
section
variable {P:Program} {fn:Func} {gf b:Nat} {tx:TypeId} {v:Value} {xs:List Int} {lo hi:Nat} {ts ti te tb:TypeId} {tys:Array TypeId} {i0 i1 i2 i3:Nat} {t1 t2 t3 t4 t5 t6 t7 t8 t9 t10 t11 t12 t13 t14 t15 t16 t17:TypeId} {p1 p2 p3 p4 p5 p6 p7 p8 p9 p10 p11 p12 p13 p14 p15 p16 p17:String} {a1 a2 a3 a4 a5 a6 a7 a8 a9 a10 a11 a12 a13 a14 a15 a16 a17:Array Edge}
end
end Go.Eng
