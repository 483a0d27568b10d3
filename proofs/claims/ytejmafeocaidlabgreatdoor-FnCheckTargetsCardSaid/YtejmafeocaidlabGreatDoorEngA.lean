/- The proof engine: what a function of the model computes, said by a plain function; no condition. -/
import Derived.WalkKit
import Derived.WalkSpells
import Derived.WalkLawsBesides
import Derived.Deep.QuietTactic
import Derived.Deep.Slices
import Derived.StillTailTactics
import Derived.OrdersHeld
import Derived.StillTail
import Derived.Carry
import Derived.ChangeSame
import Derived.Handed
import Derived.WideShapes
import Derived.ProofKit
import Derived.Laws.Cover3
import Derived.Laws.BytesString
import Derived.LaidLaws
import Derived.Stop.Joined
import Derived.Laws.StructEq
import Derived.KernelRfl
import Derived.RangeFuncFrom
import Derived.RangeFuncLeaves
import Derived.RangeFuncCalls
import Derived.OrdersIn
import Derived.TacticsInMore
import Derived.Lib.Overlaps
import Derived.Lib.AppendZerosOnto
import Derived.Laws.Externs
set_option linter.all false
namespace Go.Eng
open Go Go.RowKit
def Bf:=@List.take_succ_eq_append_getElem
def Dp:=@Int.mul_le_mul_of_nonneg_right
def DP:=@List.take_append_of_le_length
def BX:=@List.eq_nil_of_length_eq_zero
def FI:=@Array.getD_eq_getD_getElem?
def ES:=@Int.tdiv_eq_ediv_of_nonneg
def DL:=@List.getD_eq_getElem?_getD
def Ap:=@List.getElem?_append_right
def CA:=@Array.getElem?_eq_some_iff
def AK:=@List.getElem?_eq_some_iff
def Ao:=@List.getElem?_append_left
def DC:=@List.mem_take_iff_getElem
def Dl:=@Classical.byContradiction
def DB:=@List.drop_eq_getElem_cons
def AH:=@List.getElem?_eq_getElem
def Ax:=@Int.eq_ofNat_of_zero_le
def AQ:=@decide_eq_false_iff_not
def EA:=@List.getElem?_replicate
def En:=@Nat.add_sub_cancel_left
def DJ:=@World.block_lt_of_cell?
def Cy:=@Option.bind_eq_some_iff
def EN:=@List.take_of_length_le
def EL:=@List.drop_eq_nil_of_le
def Ag:=@Option.map_eq_some_iff
def FA:=@List.length_eq_one_iff
def Cj:=@List.countP_le_length
def Av:=@Bool.and_eq_false_iff
def Ay:=@List.getElem?_eq_none
def Cw:=@List.take_append_drop
def Az:=@Nat.eq_of_beq_eq_true
def EW:=@Nat.le_of_ble_eq_true
def EU:=@Array.getElem?_toList
def FY:=@Nat.pow_le_pow_right
def CL:=@List.mem_of_getElem?
def Cd:=@List.mem_cons_of_mem
def BB:=@Bool.or_eq_false_iff
def FV:=@List.mem_iff_getElem
def Bh:=@Nat.mul_le_mul_right
def FW:=@World.cell?_of_block
def FX:=@Region.noSelect_spec
def Ei:=@List.mem_append_left
def AG:=@beq_eq_false_iff_ne
def BG:=@bne_eq_false_iff_eq
def Bs:=@List.getElem_of_mem
def EG:=@Array.length_toList
def As:=@List.mem_singleton
def Bk:=@List.length_append
def Fy:=@of_decide_eq_false
def DV:=@List.countP_append
def Bg:=@List.mem_cons_self
def Bw:=@Bool.not_eq_false'
def Ds:=@Nat.lt_of_lt_of_le
def Bq:=@List.getElem?_take
def Bx:=@List.getElem?_drop
def GA:=@run_loadCells_list
def CQ:=@of_decide_eq_true
def BY:=@Bool.not_eq_true'
def FO:=@List.getElem?_map
def DF:=@Int.toNat_natCast
def Bl:=@List.append_assoc
def CP:=@bne_self_eq_false
def Ce:=@List.ext_getElem?
def AP:=@decide_eq_true_eq
def Cm:=@Result.andThen_ok
def DE:=@Option.some.injEq
def AI:=@List.getElem_mem
def EP:=@List.getElem_map
def AD:=@Bool.and_eq_true
def DX:=@List.not_mem_nil
def Fh:=@beq_self_eq_true
def CY:=@List.take_length
def Fj:=@List.drop_length
def CG:=@List.all_eq_true
def DM:=@List.length_take
def CM:=@List.length_cons
def Er:=@List.length_drop
def BR:=@List.mem_append
def Ec:=@List.length_set
def Aa:=@decide_eq_false
def CH:=@List.length_map
def AV:=@Nat.not_lt_zero
def CX:=@List.nil_append
def AM:=@Option.some.inj
def FG:=@List.map_append
def CN:=@Bool.or_eq_true
def Fx:=@Nat.min_eq_left
def Eb:=@List.append_nil
def EE:=@List.foldl_cons
def BM:=@Bool.not_false
def AX:=@decide_eq_true
def FU:=@Bool.false_and
def GL:=@List.mem_range
def EQ:=@Nat.mul_le_mul
def GH:=@List.drop_zero
def BZ:=@run_underlying
def GK:=@size_madeCells
def Al:=@Bool.not_true
def CS:=@List.mem_cons
def FH:=@Bool.true_and
def Fv:=@List.all_cons
def DG:=@Bool.false_or
def Eh:=@List.map_cons
def DI:=@Prod.mk.injEq
def Ar:=@Nat.le_trans
def Bu:=@Nat.zero_add
def Dm:=@List.mem_map
def Fa:=@Bool.or_self
def Fb:=@Bool.true_or
def Fe:=@Nat.add_zero
def CI:=@Sem.run_bind
def Dg:=@Sem.run_pure
def BN:=@Nat.le_refl
def ED:=@Int.le_refl
def CT:=@Nat.add_mul
def Ai:=@beq_iff_eq
def Cp:=@bne_iff_ne
def GM:=@or_false
def BE:=@if_pos
def BV:=@if_neg
/-! ## Frames: what is known of the slots -/
abbrev KL:=List (Nat×Value)
def kl:KL->Nat->Option Value
 |[],_=>none
 |(s,v)::K,t=>bif Nat.beq s t then some v else kl K t
structure Kn(N:Nat)(K:KL)(a:Act):Prop where
 df:a.defers=[]
 sz:N<=a.tmps.size
 get:∀t v,kl K t=some v->a.tmps[t]? =some v
def DW(K:KL):Operand->Option Value
 | .tmp t=>kl K t
 | .const v=>some v
 | .func f=>some (.func (.func f) #[] #[])
 |_=>none
theorem Kn.ev{N K a x v}(h:Kn N K a)(hx:DW K x=some v):a.eval x=v:=by
 cases x with
 |tmp t=>have:=h.get t v hx;simp [Act.eval,FI,this]
 |const c=>simpa [Act.eval,DW] using hx
 |func f=>simpa [Act.eval,DW] using hx
 |global g=>simp [DW]at hx
def Cc(K:KL):Option Tmp->Value->KL
 |some d,v=>(d,v)::K
 |none,_=>K
theorem Kn.put{N K a v}{d:Option Tmp}(h:Kn N K a)(hd:∀t,d=some t->Nat.blt t N=true):Kn N (Cc K d v) (a.put d v):=by
 cases d with
 |none=>exact h
 |some d=>
  have hdn:d<N:=by have:=hd d rfl;simpa [Nat.blt,Nat.succ_le_iff] using this
  refine⟨h.df,by simpa [Act.put] using h.sz,fun t u ht=>?_⟩
  have hsz:=h.sz
  simp only [Cc,kl]at ht
  by_cases e:d=t
  ·subst e
   simp at ht
   subst ht
   have hlt:d<a.tmps.size:=Ds hdn hsz
   simp [Act.put,hlt]
  ·have hb:Nat.beq d t=false:=by cases hq:Nat.beq d t with
   |false=>rfl
   |true=>exact absurd (Az hq) e
   rw [hb]at ht
   have:=h.get t u (by simpa using ht)
   simp [Act.put,Array.getElem?_setIfInBounds,e,this]
def oZ:KL->KL->Prop
 |[],_=>True
 |(t,v)::K',K=>kl K t=some v∧oZ K' K
theorem Kn.weaken{N K K' a}(h:Kn N K a)(hk:oZ K' K):Kn N K' a:=by
 refine⟨h.df,h.sz,fun t v ht=>h.get t v ?_⟩
 induction K' with
 |nil=>simp [kl]at ht
 |cons p K' ih=>
  obtain⟨s,u⟩:=p
  obtain⟨h1,h2⟩:=hk
  simp only [kl]at ht
  by_cases e:s=t
  ·subst e;simp at ht;subst ht;exact h1
  ·have hb:Nat.beq s t=false:=by cases hq:Nat.beq s t with
   |false=>rfl
   |true=>exact absurd (Az hq) e
   rw [hb]at ht
   exact ih h2 (by simpa using ht)
/-! ## Worlds -/
abbrev AU(w w':World):Prop:=Below w.heap.size w w'
theorem AU.refl(w:World):AU w w:=Below.refl _ _
theorem AU.trans{a b c:World}(h:AU a b)(k:AU b c):AU a c:=Below.trans h (k.mono h.size)
theorem AU.drew(w:World):AU w w.drew:=(Below.refl _ _).drew
theorem AU.alloc(w:World)(o:Obj):AU w (w.alloc o):=(Below.refl _ _).alloc (BN _) o
/-! ## Text order -/
section
variable {P:Program} {N:Nat}
def TL(P:Program)(N:Nat)(ops:Array Oper)(Q:Exit->Act->World->Prop)(l:List Oper)(K:KL)(w:World):Prop:=
 ∀a,Kn N K a->wpList P ops Q l a w
def WC(P:Program)(N:Nat)(c:Code)(Q:Exit->Act->World->Prop)(K:KL)(w:World):Prop:=
 ∀a,Kn N K a->c.wp P Q a w
def Gf(P:Program)(N:Nat)(K:KL)(o:Oper)(w:World)(v:Value):Prop:=
 ∀a,Kn N K a->∀w',AU w w'->(execOp a.eval o).run P w'= .ok (.value v) w'
def IP(P:Program)(N:Nat)(K:KL)(o:Oper)(w:World)(R:Value->World->Prop):Prop:=
 ∀a,Kn N K a->∀(Kt:Act->World->Prop) Q,(∀v w',R v w'->Kt (a.put o.dst v) w')->o.wp P a w Kt Q
def EC(N:Nat):Option Tmp->Bool
 |none=>true
 |some d=>Nat.blt d N
theorem EC.h{N:Nat}{d:Option Tmp}(h:EC N d=true):∀t,d=some t->Nat.blt t N=true:=by
 intro t e;subst e;exact h
theorem Gf.eff{K o w v}(h:Gf P N K o w v):IP P N K o w (fun u w'=>u=v∧w'=w):=by
 intro a hK Kt Q hk
 unfold Oper.wp
 rw [h a hK w (AU.refl w)]
 exact hk v w ⟨rfl,rfl⟩
theorem TL.nil{ops Q K w}(h:∀a,Kn N K a->Q .normal a w):TL P N ops Q [] K w:=fun a hK=>h a hK
/-! ## Operations -/
section ops
variable {K:KL} {o:Oper} {w:World}
theorem Kp{x v}(ho:o.op= .move x)(hx:DW K x=some v):Gf P N K o w v:=by
 intro a hK w' _
 simp [execOp,ho,hK.ev hx]
theorem Vs{x v}(ho:o.op= .assign x)(hx:DW K x=some v):Gf P N K o w v:=by
 intro a hK w' _
 simp [execOp,ho,hK.ev hx]
theorem KN{t x y u k m n}(ho:o.op= .binOp .add t x y u)(hx:DW K x=some (.int k m))(hy:DW K y=some (.int k n)):Gf P N K o w (.int k (k.wrap (m+n))):=by
 intro a hK w' _
 simp [execOp,ho,hK.ev hx,hK.ev hy,eqGuard,binOp,Op.intArith]
theorem eZ{t x y u k m n}(ho:o.op= .binOp .sub t x y u)(hx:DW K x=some (.int k m))(hy:DW K y=some (.int k n)):Gf P N K o w (.int k (k.wrap (m-n))):=by
 intro a hK w' _
 simp [execOp,ho,hK.ev hx,hK.ev hy,eqGuard,binOp,Op.intArith]
theorem KJ{t x y u k m n}(ho:o.op= .binOp .mul t x y u)(hx:DW K x=some (.int k m))(hy:DW K y=some (.int k n)):Gf P N K o w (.int k (k.wrap (m*n))):=by
 intro a hK w' _
 simp [execOp,ho,hK.ev hx,hK.ev hy,eqGuard,binOp,Op.intArith]
theorem TU{t x y u k m n}(ho:o.op= .binOp .quo t x y u)(hx:DW K x=some (.int k m))(hy:DW K y=some (.int k n))(h0:n≠0):Gf P N K o w (.int k (k.wrap (m.tdiv n))):=by
 intro a hK w' _
 simp [execOp,ho,hK.ev hx,hK.ev hy,eqGuard,binOp,Op.intDiv,h0]
theorem MC{t x y u k m n}(ho:o.op= .binOp .rem t x y u)(hx:DW K x=some (.int k m))(hy:DW K y=some (.int k n))(h0:n≠0):Gf P N K o w (.int k (m.tmod n)):=by
 intro a hK w' _
 simp [execOp,ho,hK.ev hx,hK.ev hy,eqGuard,binOp,Op.intDiv,h0]
theorem gV{t x y u k m n}(ho:o.op= .binOp .lss t x y u)(hx:DW K x=some (.int k m))(hy:DW K y=some (.int k n)):Gf P N K o w (.bool (decide (m<n))):=by
 intro a hK w' _
 simp [execOp,ho,hK.ev hx,hK.ev hy,eqGuard,binOp,Op.intCmp]
theorem dZ{t x y u k m n}(ho:o.op= .binOp .leq t x y u)(hx:DW K x=some (.int k m))(hy:DW K y=some (.int k n)):Gf P N K o w (.bool (decide (m<=n))):=by
 intro a hK w' _
 simp [execOp,ho,hK.ev hx,hK.ev hy,eqGuard,binOp,Op.intCmp]
theorem fN{t x y u k m n}(ho:o.op= .binOp .gtr t x y u)(hx:DW K x=some (.int k m))(hy:DW K y=some (.int k n)):Gf P N K o w (.bool (decide (m>n))):=by
 intro a hK w' _
 simp [execOp,ho,hK.ev hx,hK.ev hy,eqGuard,binOp,Op.intCmp]
theorem gB{t x y u k m n}(ho:o.op= .binOp .geq t x y u)(hx:DW K x=some (.int k m))(hy:DW K y=some (.int k n)):Gf P N K o w (.bool (decide (m>=n))):=by
 intro a hK w' _
 simp [execOp,ho,hK.ev hx,hK.ev hy,eqGuard,binOp,Op.intCmp]
theorem eS{t x y u k m n}(ho:o.op= .binOp .eql t x y u)(hx:DW K x=some (.int k m))(hy:DW K y=some (.int k n)):Gf P N K o w (.bool (m==n)):=by
 intro a hK w' _
 simp [execOp,ho,hK.ev hx,hK.ev hy,eqGuard,binOp,Op.intCmp]
theorem eG{t x y u k m n}(ho:o.op= .binOp .neq t x y u)(hx:DW K x=some (.int k m))(hy:DW K y=some (.int k n)):Gf P N K o w (.bool (m !=n)):=by
 intro a hK w' _
 simp [execOp,ho,hK.ev hx,hK.ev hy,eqGuard,binOp,Op.intCmp]
theorem RG{t m n}{w:World}(ht:P.underlying t=some .bool):(Op.equal t (.bool m) (.bool n)).run P w= .ok (m==n) w:=by
 simp only [Op.equal,Op.maxDepth]
 rw [show(10000:Nat)=9999+1 from rfl,Op.equalIn]
 simp [BZ ht]
theorem eQ{t x y u m n}(ho:o.op= .binOp .eql t x y u)(ht:P.underlying t=some .bool)(hx:DW K x=some (.bool m))(hy:DW K y=some (.bool n)):Gf P N K o w (.bool (m==n)):=by
 intro a hK w' _
 simp [execOp,ho,hK.ev hx,hK.ev hy,eqGuard,binOp,RG ht]
theorem Wa{t x y u m n}(ho:o.op= .binOp .neq t x y u)(ht:P.underlying t=some .bool)(hx:DW K x=some (.bool m))(hy:DW K y=some (.bool n)):Gf P N K o w (.bool (m !=n)):=by
 intro a hK w' _
 simp [execOp,ho,hK.ev hx,hK.ev hy,eqGuard,binOp,RG ht,bne]
theorem fP{t x y u m n}(ho:o.op= .binOp .eql t x y u)(hx:DW K x=some (.string m))(hy:DW K y=some (.string n)):Gf P N K o w (.bool (m.toList==n.toList)):=by
 intro a hK w' _
 simp [execOp,ho,hK.ev hx,hK.ev hy,eqGuard,binOp,Op.stringOp]
theorem gX{t x y u m n}(ho:o.op= .binOp .neq t x y u)(hx:DW K x=some (.string m))(hy:DW K y=some (.string n)):Gf P N K o w (.bool (m.toList !=n.toList)):=by
 intro a hK w' _
 simp [execOp,ho,hK.ev hx,hK.ev hy,eqGuard,binOp,Op.stringOp,bne]
theorem dW{t x b}(ho:o.op= .unOp .not t x)(hx:DW K x=some (.bool b)):Gf P N K o w (.bool (!b)):=by
 intro a hK w' _
 simp [execOp,ho,hK.ev hx,Op.unary]
theorem dX{t x k m}(ho:o.op= .unOp .neg t x)(hx:DW K x=some (.int k m)):Gf P N K o w (.int k (k.wrap (0-m))):=by
 intro a hK w' _
 simp [execOp,ho,hK.ev hx,Op.unary,Op.intArith]
theorem Vj{c x y b u}(ho:o.op= .pick c x y)(hc:DW K c=some (.bool b))(hb:b=true)(hx:DW K x=some u):Gf P N K o w u:=by
 intro a hK w' _
 subst hb
 simp [execOp,ho,hK.ev hc,hK.ev hx,asBool]
theorem VQ{c x y b u}(ho:o.op= .pick c x y)(hc:DW K c=some (.bool b))(hb:b=false)(hx:DW K y=some u):Gf P N K o w u:=by
 intro a hK w' _
 subst hb
 simp [execOp,ho,hK.ev hc,hK.ev hx,asBool]
theorem Nu{t x base n c e}(ho:o.op= .call { callee:=.builtin .len,args:=#[x],argTypes:=#[t] })(ht:P.underlying t=some (.slice e))(hx:DW K x=some (.slice base n c)):Gf P N K o w (.int .i64 n):=by
 intro a hK w' _
 simp [execOp,ho,resolve,invoke,builtin,hK.ev hx,Builtin.len_,BZ ht,goInt]
theorem Pf{t x s}(ho:o.op= .call { callee:=.builtin .len,args:=#[x],argTypes:=#[t] })(ht:P.underlying t=some .string)(hx:DW K x=some (.string s)):Gf P N K o w (.int .i64 s.size):=by
 intro a hK w' _
 simp [execOp,ho,resolve,invoke,builtin,hK.ev hx,run_len_string,ht,goInt]
theorem FP{x i vs u}(ho:o.op= .extract x i)(hx:DW K x=some (.tuple vs))(hi:vs[i]? =some u):Gf P N K o w u:=by
 intro a hK w' _
 simp [execOp,ho,hK.ev hx,Instr.extract,hi]
theorem GW{ts x y k m n}(ho:o.op= .call { callee:=.builtin .min,args:=#[x,y],argTypes:=ts })(hx:DW K x=some (.int k m))(hy:DW K y=some (.int k n)):Gf P N K o w (.int k (min m n)):=by
 intro a hK w' _
 simp [execOp,ho,resolve,invoke,builtin,hK.ev hx,hK.ev hy,run_min_int2]
 split<;>omega
theorem Hc{ts x y k m n}(ho:o.op= .call { callee:=.builtin .max,args:=#[x,y],argTypes:=ts })(hx:DW K x=some (.int k m))(hy:DW K y=some (.int k n)):Gf P N K o w (.int k (max m n)):=by
 intro a hK w' _
 simp [execOp,ho,resolve,invoke,builtin,hK.ev hx,hK.ev hy,run_max_int2]
 split<;>omega
theorem Hf{s t x k j m}(ho:o.op= .convert s t x)(hs:P.underlying s=some (.int j))(ht:P.underlying t=some (.int k))(hx:DW K x=some (.int j m)):Gf P N K o w (.int k (k.wrap m)):=by
 intro a hK w' _
 simp [execOp,ho,hK.ev hx,convert,BZ hs,BZ ht,Conv.intToInt]
end ops
end
end Go.Eng
namespace Go.Eng
open Go Go.RowKit
section
variable {P:Program} {N:Nat}
/-! ## Memory -/
theorem Hi{w w':World}{b off:Nat}(e:w'.heap[b]? =w.heap[b]?):w'.frozen? ⟨b,off,none⟩=w.frozen? ⟨b,off,none⟩:=by simp only [World.frozen?,e]
def Ab(w:World)(b off:Nat)(us:List Value):Prop:=∀j u,us[j]? =some u->w.cell? ⟨b,off+j,none⟩=some u∧w.frozen? ⟨b,off+j,none⟩=false
theorem Ab.block{w w':World}{b off us}(h:Ab w b off us)(e:w'.heap[b]? =w.heap[b]?):Ab w' b off us:=
 fun j u hu=>⟨by rw [FW (w:=w) e];exact(h j u hu).1,by rw [Hi e];exact(h j u hu).2⟩
theorem Ab.ext{w w':World}{b off us}(h:Ab w b off us)(he:AU w w'):Ab w' b off us:=
 fun j u hu=>h.block (he.block b (DJ _ _ (h j u hu).1)) j u hu
def BO(w:World)(b:Nat)(us:List Value)(t:TypeId):Prop:=w.heap[b]? =some (.cells us.toArray t (0,0))
theorem BO.lt{w:World}{b us t}(h:BO w b us t):b<w.heap.size:=(CA.1 h).1
theorem BO.cells{w:World}{b us t}(h:BO w b us t):Ab w b 0 us:=fun j u hu=>by
 refine⟨?_,by unfold BO at h;simp [World.frozen?,h]⟩
 rw [Bu,cell_of_row w b j _ t _ h];simpa using hu
theorem BO.ext{w w':World}{b us t}(h:BO w b us t)(he:AU w w'):BO w' b us t:=by
 unfold BO;rw [he.block b h.lt];exact h
structure JM(b:Nat)(w w':World):Prop where
 os:w'.os=w.os
 tape:w'.tape=w.tape
 output:w'.output=w.output
 size:w'.heap.size=w.heap.size
 block:∀k,k≠b->w'.heap[k]? =w.heap[k]?
theorem JM.below{b B:Nat}{w w':World}(h:JM b w w')(hB:B<=b):Below B w w':=
 ⟨h.os,h.tape,h.output,by rw [h.size];exact BN _,fun k hk=>h.block k (by omega)⟩
theorem BO.upd{w w':World}{b c us t}(h:BO w b us t)(he:JM c w w')(hne:b≠c):BO w' b us t:=by
 unfold BO;rw [he.block b hne];exact h
theorem Ab.upd{w w':World}{b c off us}(h:Ab w b off us)(he:JM c w w')(hne:b≠c):Ab w' b off us:=
 h.block (he.block b hne)
theorem JM.setRow(w:World)(b:Nat)(cs:Array Value):JM b w (w.setRow b cs):=
 ⟨rfl,rfl,rfl,by simp,fun k hk=>setRow_other w b k cs hk⟩
def Aw(P:Program)(t f:Nat):Option Nat:=
 match P.underlying t with
 |some (.struct fs)=>match fs[f]? with
  |some fd=>match P.info? fd.type with
   |some i=>if i.size=0 then none else some fd.offset
   |none=>none
  |none=>none
 |_=>none
def EO(P:Program)(t:Nat):Option Bool:=
 match P.underlying t with
 |some (.struct _)|some (.array _ _)=>some true
 |some _=>some false
 |none=>none
def CE(P:Program)(t:Nat):Option Nat:=(P.info? t).map (·.size)
def Fi(P:Program)(t:Nat):Option (List Value):=(P.info? t).bind fun i=>i.zero.map (·.cells.toList)
theorem EM(b off n:Nat):(⟨b,off,none⟩:Addr).add n=⟨b,off+n,none⟩:=by
 unfold Addr.add;split<;>simp_all
section
variable {K:KL} {o:Oper} {w:World}
theorem SY{t x f b off fo}(ho:o.op= .fieldAddr t x f)(hf:Aw P t f=some fo)(hx:DW K x=some (.pointer (some ⟨b,off,none⟩))):
 Gf P N K o w (.pointer (some ⟨b,off+fo,none⟩)):=by
 intro a hK w' _
 unfold Aw at hf
 split at hf
 ·rename_i fs hu
  split at hf
  ·rename_i fd hfd
   split at hf
   ·rename_i i hi
    split at hf
    ·cases hf
    ·rename_i hs
     injection hf with hf
     simp [execOp,ho,hK.ev hx,Instr.fieldAt,BZ hu,hfd,Instr.sureAddr,fieldPlace,sizeOf,typeInfo,hi,hs,EM,hf]
   ·cases hf
  ·cases hf
 ·cases hf
theorem JX{t b}(h:EO P t=some b)(w:World):(isAgg t).run P w= .ok b w:=by
 unfold EO at h
 unfold isAgg
 split at h
 ·rename_i hu;injection h with h;subst h;simp [BZ hu]
 ·rename_i hu;injection h with h;subst h;simp [BZ hu]
 ·rename_i d h1 h2 hu;injection h with h;subst h
  rw [CI,BZ hu]
  cases d<;>first|rfl|exact absurd rfl (h1 _)|exact absurd rfl (h2 _ _)
 ·cases h
theorem TB{t x b o0 off us u}(j:Nat)(ho:o.op= .load t x)(ha:EO P t=some false)(hx:DW K x=some (.pointer (some ⟨b,off,none⟩)))(hcs:Ab w b o0 us)(hj:off=o0+j)(hu:us[j]? =some u):Gf P N K o w u:=by
 have hc:w.cell? ⟨b,off,none⟩=some u:=by rw [hj];exact(hcs j u hu).1
 intro a hK w' he
 have hc':w'.cell? ⟨b,off,none⟩=some u:=by rw [he.cell (DJ _ _ hc)];exact hc
 simp [execOp,ho,hK.ev hx,Instr.loadAt,Instr.sureAddr,loadVar,CI,JX ha,hc']
theorem Ab.sub{w:World}{b off:Nat}{us:List Value}(h:Ab w b off us)(i n:Nat):Ab w b (off+i) ((us.drop i).take n):=fun j u hu=>by
 rw [Bq]at hu
 split at hu
 ·rw [Bx]at hu;rw [Nat.add_assoc];exact h (i+j) u hu
 ·cases hu
theorem Sz{t x b off us}(ho:o.op= .load t x)(ha:EO P t=some true)(hx:DW K x=some (.pointer (some ⟨b,off,none⟩)))(hc:Ab w b off us)(hn:CE P t=some us.length):
 Gf P N K o w (.agg us.toArray):=by
 intro a hK w' he
 have hc':=hc.ext he
 obtain⟨i,hi,hs⟩:=Ag.1 hn
 have hl:(loadCells ⟨b,off,none⟩ us.length).run P w'= .ok us.toArray w':=
  GA (P:=P) w' ⟨b,off,none⟩ us (fun j v hv=>by rw [EM];exact(hc' j v hv).1)
 simp [execOp,ho,hK.ev hx,Instr.loadAt,Instr.sureAddr,loadVar,CI,JX ha,sizeOf,typeInfo,hi,hs,hl]
theorem Sn{t x y b off v cur e}(ho:o.op= .store t x y)(hx:DW K x=some (.pointer (some ⟨b,off,none⟩)))(hy:DW K y=some v)(hb:BO w b cur e)(hn:CE P t=some v.cells.toList.length)
 (h1:v.cells.toList.all Value.oneCell'=true) (hfit:Nat.ble (off+v.cells.toList.length) cur.length=true):
 IP P N K o w (fun _ w'=>JM b w w'∧BO w' b (cur.take off++v.cells.toList++cur.drop (off+v.cells.toList.length)) e):=by
 intro a hK Kt Q hk
 obtain⟨i,hi,hs⟩:=Ag.1 hn
 have hfit:=EW hfit
 have hst:=run_storeCells_at P b off e v.cells.toList 0 cur.toArray w hb (by simpa using hfit) (CG.1 h1)
 simp only [Fe]at hst
 unfold Oper.wp
 have hr:(execOp a.eval o).run P w= .ok .skip (w.setRow b (cur.take off++v.cells.toList++cur.drop (off+v.cells.toList.length)).toArray):=by
  simp [execOp,ho,hK.ev hx,hK.ev hy,Instr.storeAt,Instr.sureAddr,storeVar,CI,sizeOf,typeInfo,hi,hs]at hst ⊢
  rw [hst]
  simp
 rw [hr]
 exact hk _ _ ⟨JM.setRow _ _ _,by unfold BO;exact setRow_heap w b _ _ e _ hb⟩
def Py(w w':World)(b:Nat)(us:List Value)(t:TypeId):Prop:=b=w.heap.size∧w'.heap.size=w.heap.size+1∧AU w w'∧BO w' b us t
theorem Py.of(w:World)(us:List Value)(t:TypeId):Py w (w.alloc (.cells us.toArray t)) w.heap.size us t:=
 ⟨rfl,by simp,AU.alloc _ _,heap_alloc_new w _⟩
theorem AZ{t zs}(ho:o.op= .alloc t)(hz:Fi P t=some zs):
 IP P N K o w (fun v w'=>∃b,v= .pointer (some ⟨b,0,none⟩)∧Py w w' b zs t):=by
 intro a hK Kt Q hk
 unfold Fi at hz
 obtain⟨i,hi,hz2⟩:=Cy.1 hz
 obtain⟨z,hz3,hz4⟩:=Ag.1 hz2
 have hr:(execOp a.eval o).run P w= .ok (.value (.pointer (some ⟨w.heap.size,0,none⟩))) (w.alloc (.cells zs.toArray t)):=by
  subst hz4
  simp [execOp,ho,Instr.alloc,zeroValue,typeInfo,hi,hz3,newVar,newRow,newObj];simp [Sem.run,Result.andThen]
 unfold Oper.wp
 rw [hr]
 exact hk _ _ ⟨_,rfl,Py.of w zs t⟩
theorem AS{t x v}(ho:o.op= .box t x)(hx:DW K x=some v):
 IP P N K o w (fun u w'=>∃b,u= .pointer (some ⟨b,0,none⟩)∧Py w w' b v.cells.toList t):=by
 intro a hK Kt Q hk
 have hr:(execOp a.eval o).run P w= .ok (.value (.pointer (some ⟨w.heap.size,0,none⟩))) (w.alloc (.cells v.cells.toList.toArray t)):=by
  simp [execOp,ho,hK.ev hx,Instr.box,newVar,newRow,newObj];simp [Sem.run,Result.andThen]
 unfold Oper.wp
 rw [hr]
 exact hk _ _ ⟨_,rfl,Py.of w _ t⟩
/-! ## Calls -/
def RE(K:KL):List Operand->Option (List Value)
 |[]=>some []
 |x::xs=>match DW K x,RE K xs with|some v,some vs=>some (v::vs)|_,_=>none
theorem Kn.evs{K a}(h:Kn N K a):∀{xs vs},RE K xs=some vs->xs.map a.eval=vs
 |[],vs,e=>by simp [RE]at e;subst e;rfl
 |x::xs,vs,e=>by
  unfold RE at e
  split at e
  ·rename_i v vs' h1 h2
   injection e with e;subst e
   simp [h.ev h1,h.evs h2]
  ·cases e
def BQ(P:Program)(f:FuncId):Bool:=match P.funcs[f]? with|some fn=> !(fn.name== "runtime.NumGoroutine")&&fn.body.isSome|none=>false
theorem RZ{f}(h:BQ P f=true)(args:Array Value)(w:World):(callFunc f args).run P w= .ok (.enter f args) w:=by
 unfold BQ at h
 split at h
 ·rename_i fn hf
  simp only [AD,BY]at h
  have hb:fn.body.isNone=false:=by cases hq:fn.body<;>simp_all
  have hb2:¬fn.body=none:=by intro e;simp [e]at hb
  have h1:¬fn.name= "runtime.NumGoroutine" :=by intro e;simp [e]at h
  simp [callFunc,hf,h1,hb2]
 ·cases h
def Fu(R:Value->World->Prop):Ending->World->Prop:=fun e w'=>∃v,e= .returned v∧R v w'
theorem bF{f args tys vs}{R:Value->World->Prop}(ho:o.op= .call { callee:=.value (.func f),args:=args,argTypes:=tys })(hf:BQ P f=true)
 (ha:RE K args.toList=some vs) (hc:Calls P f vs.toArray w (Fu R)):IP P N K o w R:=by
 intro a hK Kt Q hk
 have he:args.map a.eval=vs.toArray:=by
  have:=hK.evs ha
  apply Array.ext'
  simpa using this
 have hr:(execOp a.eval o).run P w= .ok (.enter f vs.toArray) w:=by
  simp [execOp,ho,resolve,Act.eval,Deferred.ofValue,invoke,he,RZ hf]
 unfold Oper.wp
 rw [hr]
 exact hc.mono fun e w' ⟨v,he,hR⟩=>by subst he;exact hk _ _ hR
end
/-! ## Code -/
section
variable {Q:Exit -> Act -> World -> Prop} {K:KL} {w:World}
theorem WC.seq{x y:Code}(h:WC P N x (Exit.then (fun a' w'=>y.wp P Q a' w') Q) K w):WC P N (.seq x y) Q K w:=fun a hK=>wp_seq (h a hK)
theorem WC.region{id:Nat}{l:List Oper}(h:TL P N l.toArray Q l K w):WC P N (.region id l.toArray false) Q K w:=fun a hK=>wp_region_lit (h a hK)
theorem WC.block{id:Nat}{c:Code}(h:WC P N c (Exit.inBlock id Q) K w):WC P N (.block id c) Q K w:=fun a hK=>wp_block (h a hK)
theorem WC.skip(h:∀a,Kn N K a->Q .normal a w):WC P N .skip Q K w:=fun a hK=>wp_skip (h a hK)
theorem WC.exit{id:Nat}(h:∀a,Kn N K a->Q (.exit id) a w):WC P N (.exit id) Q K w:=fun a hK=>wp_exit (h a hK)
theorem WC.ret(h:∀a,Kn N K a->Q .ret a w):WC P N .ret Q K w:=fun a hK=>wp_ret (h a hK)
theorem WC.cond{c:Operand}{x y:Code}{t:Bool}(hc:DW K c=some (.bool t))(ht:t=true->WC P N x Q K w)(hf:t=false->WC P N y Q K w):WC P N (.cond c x y) Q K w:=
 fun a hK=>wp_cond_split (hK.ev hc) (fun h=>ht h a hK) (fun h=>hf h a hK)
theorem WC.loop{c:Code}(I:Nat->Act->World->Prop)(m:Nat)(h0:∀a,Kn N K a->I m a w)
 (round:∀m a w,I m a w->c.wp P (Exit.then (fun a' w'=>∃m',m'<m∧I m' a' w') Q) a w):WC P N (.loop c) Q K w:=by
 intro a hK
 classical
 have key:∀a w,(∃m,I m a w)->∃m,I m a w∧∀m',I m' a w->m<=m':=by
  intro a w ⟨m,hm⟩
  induction m using Nat.strongRecOn with
  |_ m ih=>
   by_cases h:∃m',m'<m∧I m' a w
   ·obtain⟨m',h1,h2⟩:=h;exact ih m' h1 h2
   ·exact⟨m,hm,fun m' hm'=>Nat.le_of_not_lt fun hlt=>h ⟨m',hlt,hm'⟩⟩
 let μ:Act->World->Nat:=fun a w=>if h:∃m,I m a w then Classical.choose (key a w h)else 0
 have hμ:∀a w,(h:∃m,I m a w)->I (μ a w) a w∧∀m',I m' a w->μ a w<=m':=by
  intro a w h
  simp only [μ,dif_pos h]
  exact Classical.choose_spec (key a w h)
 refine wp_loop (fun a w=>∃m,I m a w) μ ⟨m,h0 a hK⟩ fun a w hI=>?_
 obtain⟨h1,h2⟩:=hμ a w hI
 refine Code.wp_mono ?_ (round _ a w h1)
 intro e a' w' hq
 cases e with
 |normal=>
  obtain⟨m',hlt,hm'⟩:=hq
  exact⟨⟨m',hm'⟩,Nat.lt_of_le_of_lt ((hμ a' w' ⟨m',hm'⟩).2 m' hm') hlt⟩
 |_=>exact hq
end
/-! ## Functions -/
def Se:Nat->List Value->KL
 |_,[]=>[]
 |i,v::vs=>(i,v)::Se (i+1) vs
theorem Sm:∀(vs:List Value) (i t:Nat) (u:Value),kl (Se i vs) t=some u->i<=t∧vs[t-i]? =some u
 |[],_,_,_,h=>by simp [Se,kl]at h
 |v::vs,i,t,u,h=>by
  simp only [Se,kl]at h
  cases hq:Nat.beq i t with
  |true=>
   rw [hq]at h
   have:=Az hq
   subst this
   simpa using h
  |false=>
   rw [hq]at h
   obtain⟨h1,h2⟩:=Sm vs (i+1) t u (by simpa using h)
   refine⟨by omega,?_⟩
   rw [show t-i=(t-(i+1))+1 by omega]
   simpa using h2
theorem Zj{f:FuncId}{fn:Func}{c:Code}{vs:List Value}{w:World}{R:Ending->World->Prop}
 (hf:P.funcs[f]? =some fn) (hb:fn.body=some c) (hn:fn.ntmps=N) (h:WC P N c (bodyPost P fn R) (Se 0 vs) w):Calls P f vs.toArray w R:=by
 refine calls_of_wp hf hb (h _ ⟨rfl,?_,?_⟩)
 ·simp [hn];omega
 ·intro t v ht
  obtain⟨_,h2⟩:=Sm vs 0 t v ht
  have hlt:t<vs.length:=by
   rcases Nat.lt_or_ge t vs.length with h|h
   ·exact h
   ·simp [h]at h2
  simp at h2
  rw [Array.getElem?_append_left (by simpa using hlt)]
  simpa using h2
def Sy(P:Program)(K:KL)(w:World):List ResultVar->List Value->Prop
 |[],[]=>True
 | .tmp t::rs,v::vs=>kl K t=some v∧Sy P K w rs vs
 | .cell p ty::rs,v::vs=>(∃b,kl K p=some (.pointer (some ⟨b,0,none⟩))∧(loadVar ty ⟨b,0,none⟩).run P w= .ok v w)∧Sy P K w rs vs
 |_,_=>False
def IT:List Value->Value
 |[v]=>v
 |vs=>.tuple vs.toArray
def Ul(a:Act):ResultVar->Sem Value
 | .tmp t=>pure (a.tmps.getD t undef)
 | .cell p t=>do loadVar t (←asAddr (a.tmps.getD p undef))
theorem IY{K a w}(h:Kn N K a):∀{rs vs},Sy P K w rs vs->(rs.mapM (Ul a)).run P w= .ok vs w
 |[],[],_=>by simp
 | .tmp t::rs,v::vs,⟨h1,h2⟩=>by
  have:=h.get t v h1
  have ih:=IY h h2
  simp [Ul,FI,this,ih]
 | .cell p ty::rs,v::vs,⟨⟨b,h1,h3⟩,h2⟩=>by
  have:=h.get p _ h1
  have ih:=IY h h2
  simp [Ul,FI,this,asAddr,h3,ih]
theorem cR{fn:Func}{rs vs K w R}(hr:fn.results=rs.toArray)(ho:Sy P K w rs vs)(hR:R (.returned (IT vs)) w):∀a,Kn N K a->bodyPost P fn R .ret a w:=by
 intro a hK
 refine bodyPost_ret (v:=IT vs) ?_ hK.df hR
 have:=IY (P:=P) hK ho
 have hfun:∀f:ResultVar->Sem Value,(∀r,f r=Ul a r)->(rs.mapM f).run P w= .ok vs w:=by
  intro f hf;rw [show f=Ul a from funext hf];exact this
 unfold results
 rw [hr,List.mapM_toArray]
 simp only [CI,Sem.run_map]
 rw [hfun _ (by intro r;cases r<;>rfl)]
 simp only [Cm,Dg]
 match vs,ho with
 |[],_=>rfl
 |[v],_=>rfl
 |v::v'::vs,_=>simp [IT]
end
end Go.Eng
namespace Go.Eng
open Go Go.RowKit
section
variable {P:Program} {N:Nat}
/-! ## Guards, cuts -/
def QJ(ops:Array Oper)(j:Nat):Option Tmp:=(ops[j]?).bind (·.dst)
theorem Kn.yielded{K a ops j t b}(h:Kn N K a)(hs:QJ ops j=some t)(hb:kl K t=some (.bool b)):yielded ops a.tmps j=some b:=by
 have:=h.get t _ hb
 unfold QJ at hs
 simp [Go.yielded,hs,this]
section
variable {ops:Array Oper} {Q:Exit -> Act -> World -> Prop} {o:Oper} {rest l:List Oper} {K:KL} {w:World}
theorem VX{K a j t b want}(h:Kn N K a)(hg:o.guard=some (j,want))(hs:QJ ops j=some t)(hb:kl K t=some (.bool b))(hw:b=want):Region.wanted o (yielded ops a.tmps)=true:=by
 subst hw;simp [Region.wanted,hg,h.yielded hs hb]
theorem XY{K a j t b want}(h:Kn N K a)(hg:o.guard=some (j,want))(hs:QJ ops j=some t)(hb:kl K t=some (.bool b))(hw:b= !want):Region.wanted o (yielded ops a.tmps)=false:=by
 subst hw;simp [Region.wanted,hg,h.yielded hs hb]
theorem SS{l1 l2:List Oper}:∀{a w},wpList P ops (Exit.then (fun a' w'=>wpList P ops Q l2 a' w') Q) l1 a w->wpList P ops Q (l1++l2) a w:=by
 induction l1 with
 |nil=>intro a w h;exact h
 |cons o l1 ih=>
  intro a w h
  unfold wpList at h
  show wpList P ops Q (o::(l1++l2)) a w
  unfold wpList
  split at h
  ·rename_i hw
   rw [BE hw]
   refine h.imp (fun h=>?_) (fun h=>h)
   unfold Oper.wp at*
   generalize (execOp a.eval o).run P w=r at*
   cases r with
   |ok n w'=>
    cases n<;>simp only [Oper.upon]at h ⊢ <;>
     first
      |exact ih h
      |exact Calls.mono h (fun e w'' he=>by cases e<;>first|exact ih he|exact he)
      |exact Rows.mono h (fun _ _ he=>ih he)
      |exact h
   |halt x w'=>cases x<;>simp only [Oper.upon]at h ⊢ <;>exact h
  ·rename_i hw
   rw [BV hw]
   exact ih h
theorem TL.cut(k:Nat)(K':KL)(R:World->Prop)(h1:TL P N ops (Exit.then (fun a' w'=>Kn N K' a'∧R w') Q) (l.take k) K w)(h2:∀w',R w'->TL P N ops Q (l.drop k) K' w'):TL P N ops Q l K w:=by
 intro a hK
 rw [←Cw k l]
 refine SS ?_
 have:=h1 a hK
 revert this
 generalize l.take k=l1
 intro h
 have mono:∀(l1:List Oper) a w,wpList P ops (Exit.then (fun a' w'=>Kn N K' a'∧R w') Q) l1 a w->wpList P ops (Exit.then (fun a' w'=>wpList P ops Q (l.drop k) a' w') Q) l1 a w:=by
  intro l1
  induction l1 with
  |nil=>intro a w h;exact h2 w h.2 a h.1
  |cons o l1 ih=>
   intro a w h
   unfold wpList at h ⊢
   split at h
   ·rename_i hw
    rw [BE hw]
    refine h.imp (fun h=>?_) (fun h=>h)
    unfold Oper.wp at*
    generalize (execOp a.eval o).run P w=r at*
    cases r with
    |ok n w'=>
     cases n<;>simp only [Oper.upon]at h ⊢ <;>
      first
       |exact ih _ _ h
       |exact Calls.mono h (fun e w'' he=>by cases e<;>first|exact ih _ _ he|exact he)
       |exact Rows.mono h (fun _ _ he=>ih _ _ he)
       |exact h
    |halt x w'=>cases x<;>simp only [Oper.upon]at h ⊢ <;>exact h
   ·rename_i hw
    rw [BV hw]
    exact ih _ _ h
 exact mono l1 a w h
/-! ## Regions whose order is drawn, all of whose operations are quiet -/
def QL(P:Program)(N:Nat)(ops:Array Oper)(w:World)(Qa:Act->Prop)(l:List Oper)(K:KL):Prop:=
 ∀a,Kn N K a->wpQuiet P ops (fun w'=>AU w w') Qa l a
def vJ(P:Program)(N:Nat)(K:KL)(o:Oper)(w:World)(v:Value):Prop:=
 ∀a,Kn N K a->∀w',AU w w'->o.quietAt P a (fun w'=>AU w w') w' v
theorem Gf.qui{v}(h:Gf P N K o w v):vJ P N K o w v:=by
 intro a hK w' he
 unfold Oper.quietAt
 rw [h a hK w' he]
 exact⟨rfl,rfl⟩
theorem Yr{f args tys vs v}(ho:o.op= .call { callee:=.value (.func f),args:=args,argTypes:=tys })(hf:BQ P f=true)
 (ha:RE K args.toList=some vs) (hc:∀w',AU w w'->Calls P f vs.toArray w' (Fu fun u w''=>u=v∧AU w' w'')):vJ P N K o w v:=by
 intro a hK w' hw
 have he:args.map a.eval=vs.toArray:=by
  have:=hK.evs ha
  apply Array.ext'
  simpa using this
 have hr:(execOp a.eval o).run P w'= .ok (.enter f vs.toArray) w':=by
  simp [execOp,ho,resolve,Act.eval,Deferred.ofValue,invoke,he,RZ hf]
 unfold Oper.quietAt
 rw [hr]
 exact⟨rfl,(hc w' hw).mono fun e w'' ⟨u,h1,h2,h3⟩=>by subst h1 h2;exact⟨rfl,hw.trans h3⟩⟩
variable {Qa:Act -> Prop}
theorem QL.nil(h:∀a,Kn N K a->Qa a):QL P N ops w Qa [] K:=fun a hK=>h a hK
theorem RQ{C:World->Prop}{l1 l2:List Oper}:∀{a},wpQuiet P ops C (fun a'=>wpQuiet P ops C Qa l2 a') l1 a->wpQuiet P ops C Qa (l1++l2) a:=by
 induction l1 with
 |nil=>intro a h;exact h
 |cons o l1 ih=>
  intro a h
  unfold wpQuiet at h
  show wpQuiet P ops C Qa (o::(l1++l2)) a
  unfold wpQuiet
  split at h
  ·rename_i hw
   rw [BE hw]
   obtain⟨v,h1,h2⟩:=h
   exact⟨v,h1,ih h2⟩
  ·rename_i hw
   rw [BV hw]
   exact ih h
theorem Tg{C:World->Prop}{Qa Qb:Act->Prop}(hm:∀a,Qa a->Qb a):∀{l1:List Oper} {a},wpQuiet P ops C Qa l1 a->wpQuiet P ops C Qb l1 a:=by
 intro l1
 induction l1 with
 |nil=>intro a h;exact hm _ h
 |cons o l1 ih=>
  intro a h
  unfold wpQuiet at h ⊢
  split at h
  ·rename_i hw
   rw [BE hw]
   obtain⟨v,h1,h2⟩:=h
   exact⟨v,h1,ih h2⟩
  ·rename_i hw
   rw [BV hw]
   exact ih h
theorem QL.cut(k:Nat)(K':KL)(h1:QL P N ops w (fun a'=>Kn N K' a') (l.take k) K)(h2:QL P N ops w Qa (l.drop k) K'):QL P N ops w Qa l K:=by
 intro a hK
 rw [←Cw k l]
 exact RQ (Tg (fun a' h=>h2 a' h) (h1 a hK))
theorem WC.quiet{id:Nat}(hm:P.follows .mixedOrders=true)(hB:Region.lexB .any l.toArray=true)(h:QL P N l.toArray w (fun a'=>∀w',AU w w'->Q .normal a' w') l K):WC P N (.region id l.toArray true) Q K w:=
 fun a hK=>wp_region_quiet (C:=fun w'=>AU w w') hm hB (AU.drew w) (by simpa using h a hK)
end
end
end Go.Eng
namespace Go.Eng
open Go Go.RowKit
/-! ## Data in memory -/
abbrev Iv(lo hi:Nat):Nat->Prop:=fun k=>lo<=k∧k<hi
structure EJ(α:Type) where
 n:Nat
 rep:World->(Nat->Prop)->α->List Value->Prop
 len:∀{w S x vs},rep w S x vs->vs.length=n
 one:∀{w S x vs},rep w S x vs->vs.all Value.oneCell'=true
 mono:∀{w w' S S' x vs},rep w S x vs->(∀k,S k->S' k)->(∀k,S k->w'.heap[k]? =w.heap[k]?)->rep w' S' x vs
def Bo(k:IntKind):EJ Int where
 n:=1
 rep:=fun _ _ x vs=>vs=[.int k x]
 len:=fun h=>by rw [h];rfl
 one:=fun h=>by rw [h];rfl
 mono:=fun h _ _=>h
def CD:EJ Bool where
 n:=1
 rep:=fun _ _ x vs=>vs=[.bool x]
 len:=fun h=>by rw [h];rfl
 one:=fun h=>by rw [h];rfl
 mono:=fun h _ _=>h
def Bc:EJ ByteArray where
 n:=1
 rep:=fun _ _ x vs=>vs=[.string x]
 len:=fun h=>by rw [h];rfl
 one:=fun h=>by rw [h];rfl
 mono:=fun h _ _=>h
def CV{α β:Type}(c:EJ α)(d:EJ β):EJ (α×β) where
 n:=c.n+d.n
 rep:=fun w S x vs=>∃us ts,vs=us++ts∧c.rep w S x.1 us∧d.rep w S x.2 ts
 len:=fun⟨us,ts,e,h1,h2⟩=>by rw [e,Bk,c.len h1,d.len h2]
 one:=fun⟨us,ts,e,h1,h2⟩=>by rw [e,List.all_append,c.one h1,d.one h2];rfl
 mono:=fun⟨us,ts,e,h1,h2⟩ a b=>⟨us,ts,e,c.mono h1 a b,d.mono h2 a b⟩
def FZ{α β:Type}(f:β->α)(c:EJ α):EJ β where
 n:=c.n
 rep:=fun w S x vs=>c.rep w S (f x) vs
 len:=fun h=>c.len h
 one:=fun h=>c.one h
 mono:=fun h a b=>c.mono h a b
def AF{α:Type}(c:EJ α)(w:World)(S:Nat->Prop)(xs:List α)(v:Value):Prop:=
 ∃a cap,v= .slice a xs.length cap∧(xs.length<=cap∧(a=none->cap=0))∧cap<=9223372036854775807∧
  (0<xs.length->∃b off,a=some ⟨b,off,none⟩∧S b∧∀i x,xs[i]? =some x->∃us,c.rep w S x us∧Ab w b (off+i*c.n) us)
theorem AF.mono{α:Type}{c:EJ α}{w w':World}{S S':Nat->Prop}{xs:List α}{v:Value}(h:AF c w S xs v)(ha:∀k,S k->S' k)(hk:∀k,S k->w'.heap[k]? =w.heap[k]?):AF c w' S' xs v:=by
 obtain⟨a,cap,h1,h2,h3,h4⟩:=h
 refine⟨a,cap,h1,h2,h3,fun hl=>?_⟩
 obtain⟨b,off,h5,h6,h8⟩:=h4 hl
 refine⟨b,off,h5,ha b h6,fun i x hx=>?_⟩
 obtain⟨us,h9,h10⟩:=h8 i x hx
 exact⟨us,c.mono h9 ha hk,h10.block (hk b h6)⟩
def Hh{α:Type}(c:EJ α):EJ (List α) where
 n:=1
 rep:=fun w S xs vs=>∃v,vs=[v]∧AF c w S xs v
 len:=fun⟨v,e,_⟩=>by rw [e];rfl
 one:=fun⟨v,e,a,cap,h,_⟩=>by rw [e,h];rfl
 mono:=fun⟨v,e,h⟩ ha hk=>⟨v,e,h.mono ha hk⟩
theorem AF.old{α:Type}{c:EJ α}{w w':World}{B lo hi:Nat}{xs:List α}{v:Value}(h:AF c w (Iv lo hi) xs v)(hB:Below B w w')(hle:hi<=B):AF c w' (Iv lo hi) xs v:=
 h.mono (fun _ h=>h) (fun k h2=>hB.block k (by have:=h2.2;omega))
theorem AF.wide{α:Type}{c:EJ α}{w:World}{lo hi lo' hi':Nat}{xs:List α}{v:Value}(h:AF c w (Iv lo hi) xs v)(h1:lo'<=lo:=by omega)(h2:hi<=hi':=by omega):AF c w (Iv lo' hi') xs v:=
 h.mono (fun k h=>⟨by have:=h.1;omega,by have:=h.2;omega⟩) (fun _ _=>rfl)
theorem AF.upd{α:Type}{c:EJ α}{w w':World}{b lo hi:Nat}{xs:List α}{v:Value}(h:AF c w (Iv lo hi) xs v)(hu:JM b w w')(hne:b<lo∨hi<=b):AF c w' (Iv lo hi) xs v:=
 h.mono (fun _ h=>h) (fun k h=>hu.block k (by have:=h.1;have:=h.2;omega))
theorem EJ.old{α:Type}(c:EJ α){w w':World}{B lo hi:Nat}{x:α}{vs:List Value}(h:c.rep w (Iv lo hi) x vs)(hB:Below B w w')(hle:hi<=B):c.rep w' (Iv lo hi) x vs:=
 c.mono h (fun _ h=>h) (fun k h2=>hB.block k (by have:=h2.2;omega))
theorem AF.nil{α:Type}(c:EJ α)(w:World)(S:Nat->Prop):AF c w S [] (.slice none 0 0):=⟨none,0,rfl,⟨by simp,fun _=>rfl⟩,by simp,fun h=>by simp at h⟩
def AL{α:Type}(xs:List α)(i:Int):Option α:=if 0<=i then xs[i.toNat]? else none
theorem HH{α:Type}{xs:List α}{i:Int}{x:α}(h:AL xs i=some x):0<=i∧i<xs.length∧xs[i.toNat]? =some x:=by
 unfold AL at h
 split at h
 ·rename_i h0
  obtain⟨h1,_⟩:=AK.1 h
  exact⟨h0,by omega,h⟩
 ·cases h
section
variable {P:Program} {N:Nat}
def YE(P:Program)(N:Nat)(K:KL)(o:Oper)(w:World)(Ψ:Value->Prop):Prop:=∃v,Gf P N K o w v∧Ψ v
section
variable {ops:Array Oper} {Q:Exit -> Act -> World -> Prop} {o:Oper} {rest l:List Oper} {K:KL} {w:World} {Qa:Act -> Prop} {Ψ:Value -> Prop}
theorem Ha{t x i e b off n c k m sz}(ho:o.op= .indexAddr t x i)(hu:P.underlying t=some (.slice e))(hc:CE P e=some sz)(hx:DW K x=some (.slice (some ⟨b,off,none⟩) n c))
 (hi:DW K i=some (.int k m)) (h0:0<=m) (h1:m<n):Gf P N K o w (.pointer (some ⟨b,off+m.toNat*sz,none⟩)):=by
 intro a hK w' _
 obtain⟨i,hi2,hs⟩:=Ag.1 hc
 simp [execOp,ho,hK.ev hx,hK.ev hi,Instr.indexAt,asIntOf,BZ hu,h0,h1,sizeOf,typeInfo,hi2,hs,EM]
theorem YO{α:Type}{c:EJ α}{xs:List α}{y:α}{t x i e v k m S}(ho:o.op= .indexAddr t x i)(hu:P.underlying t=some (.slice e))(hc:CE P e=some c.n)(hx:DW K x=some v)
 (hi2:DW K i=some (.int k m)) (hs:AF c w S xs v) (hg:AL xs m=some y):
 YE P N K o w (fun u=>∃b off us,u= .pointer (some ⟨b,off,none⟩)∧S b∧c.rep w S y us∧Ab w b off us):=by
 obtain⟨a,cap,rfl,h2,h3,h4⟩:=hs
 obtain⟨g0,g1,g2⟩:=HH hg
 obtain⟨b,off,rfl,h5,h7⟩:=h4 (by omega)
 obtain⟨us,h8,h9⟩:=h7 _ _ g2
 exact⟨_,Ha ho hu hc hx hi2 g0 g1,b,_,us,rfl,h5,h8,h9⟩
theorem kI{α:Type}{c:EJ α}{xs:List α}{t x e v S}(ho:o.op= .call { callee:=.builtin .len,args:=#[x],argTypes:=#[t] })(hu:P.underlying t=some (.slice e))(hx:DW K x=some v)(hs:AF c w S xs v):
 Gf P N K o w (.int .i64 xs.length):=by
 obtain⟨a,cap,rfl,h2,h3,h4⟩:=hs
 exact Nu ho hu hx
end
section
variable {o:Oper} {K:KL} {w:World}
end
/-! ## What comes next -/
def NX(N:Nat)(Q:Exit->Act->World->Prop)(e:Exit)(K:KL)(w:World):Prop:=∀a,Kn N K a->Q e a w
section
variable {Q:Exit -> Act -> World -> Prop} {K:KL} {w:World} {f:Act -> World -> Prop} {ops:Array Oper}
theorem TL.done(h:NX N Q .normal K w):TL P N ops Q [] K w:=TL.nil h
theorem QL.done(h:∀w',AU w w'->NX N Q .normal K w'):QL P N ops w (fun a'=>∀w',AU w w'->Q .normal a' w') [] K:=QL.nil fun a hK w' he=>h w' he a hK
theorem WC.skip'(h:NX N Q .normal K w):WC P N .skip Q K w:=WC.skip h
theorem WC.exit'{id:Nat}(h:NX N Q (.exit id) K w):WC P N (.exit id) Q K w:=WC.exit h
theorem WC.ret'(h:NX N Q .ret K w):WC P N .ret Q K w:=WC.ret h
theorem NX.seq{y:Code}{Q':Exit->Act->World->Prop}(h:WC P N y Q' K w):NX N (Exit.then (fun a' w'=>y.wp P Q' a' w') Q) .normal K w:=h
theorem NX.then_n(h:∀a,Kn N K a->f a w):NX N (Exit.then f Q) .normal K w:=h
theorem NX.then_e{id:Nat}(h:NX N Q (.exit id) K w):NX N (Exit.then f Q) (.exit id) K w:=h
theorem NX.then_r(h:NX N Q .ret K w):NX N (Exit.then f Q) .ret K w:=h
theorem NX.blk_n{id:Nat}(h:NX N Q .normal K w):NX N (Exit.inBlock id Q) .normal K w:=h
theorem NX.blk_r{id:Nat}(h:NX N Q .ret K w):NX N (Exit.inBlock id Q) .ret K w:=h
theorem NX.blk_hit{id:Nat}(h:NX N Q .normal K w):NX N (Exit.inBlock id Q) (.exit id) K w:=fun a hK=>by
 show(if id=id then Q .normal a w else Q (.exit id) a w);rw [BE rfl];exact h a hK
theorem NX.blk_miss{id id':Nat}(hne:Nat.beq id' id=false)(h:NX N Q (.exit id') K w):NX N (Exit.inBlock id Q) (.exit id') K w:=fun a hK=>by
 have hn:¬id'=id:=fun e=>by subst e;simp at hne
 show(if id'=id then Q .normal a w else Q (.exit id') a w);rw [BV hn];exact h a hK
theorem NX.end{fn:Func}{rs vs R}(hr:fn.results=rs.toArray)(ho:Sy P K w rs vs)(hR:R (.returned (IT vs)) w):NX N (bodyPost P fn R) .ret K w:=cR hr ho hR
theorem Dd{b ty T}{us:List Value}(ha:EO P ty=some true)(hn:CE P ty=some us.length)(hb:BO w b us T):(loadVar ty ⟨b,0,none⟩).run P w= .ok (.agg us.toArray) w:=by
 obtain⟨i,hi,hs⟩:=Ag.1 hn
 have hl:(loadCells ⟨b,0,none⟩ us.length).run P w= .ok us.toArray w:=
  GA (P:=P) w ⟨b,0,none⟩ us (fun j v hv=>by rw [EM];exact(hb.cells j v hv).1)
 simp [loadVar,CI,JX ha,sizeOf,typeInfo,hi,hs,hl]
end
end
theorem AF.one{α:Type}{c:EJ α}{w:World}{S:Nat->Prop}{xs:List α}{v:Value}(h:AF c w S xs v):v.oneCell'=true:=by
 obtain⟨a,cap,rfl,_⟩:=h;rfl
theorem AF.cells{α:Type}{c:EJ α}{w:World}{S:Nat->Prop}{xs:List α}{v:Value}(h:AF c w S xs v):v.cells= #[v]:=by
 obtain⟨a,cap,rfl,_⟩:=h;rfl
theorem OI{α:Type}{b:Int}{a:Option α}{r:α}(h:(bif b==0 then none else a)=some r):b≠0∧a=some r:=by
 by_cases hb:b=0
 ·subst hb;cases h
 ·refine⟨hb,?_⟩
  have:(b==0)=false:=by simpa using hb
  rw [this]at h;exact h
theorem AO{α β:Type}{o:Option α}{f:α->Option β}{r:β}(h:Option.bind o f=some r):∃x,o=some x∧f x=some r:=by
 cases o with
 |none=>cases h
 |some x=>exact⟨x,rfl,h⟩
theorem Qf{α:Type}{c:Bool}{a b:Option α}{r:α}(h:c=true)(hF:(bif c then a else b)=some r):a=some r:=by subst h;exact hF
theorem QU{α:Type}{c:Bool}{a b:Option α}{r:α}(h:c=false)(hF:(bif c then a else b)=some r):b=some r:=by subst h;exact hF
end Go.Eng
namespace Go.Eng
open Go Go.RowKit
class Es{α:Type}(c:EJ α):Prop where
 any:∀{w w' S S' x vs},c.rep w S x vs->c.rep w' S' x vs
instance (k:IntKind):Es (Bo k):=⟨fun h=>h⟩
instance:Es CD:=⟨fun h=>h⟩
instance:Es Bc:=⟨fun h=>h⟩
instance {α β:Type}(c:EJ α)(d:EJ β)[Es c][Es d]:Es (CV c d):=⟨fun⟨us,ts,e,h1,h2⟩=>⟨us,ts,e,Es.any h1,Es.any h2⟩⟩
instance {α β:Type}(f:β->α)(c:EJ α)[h:Es c]:Es (FZ f c):=⟨fun k=>h.any k⟩
def Ba(cs:List Value)(n i:Nat):List Value:=(cs.drop (i*n)).take n
theorem CZ{cs:List Value}{n i j:Nat}(hj:j<n):(Ba cs n i)[j]? =cs[i*n+j]?:=by
 unfold Ba
 rw [Bq,BE hj,Bx]
def AC{α:Type}(c:EJ α)(w:World)(B:Nat)(S:Nat->Prop)(e:TypeId)(xs:List α)(v:Value):Prop:=
 ∃cs,w.ownsRow B e c.n v xs.length cs∧∀i x,xs[i]? =some x->c.rep w S x (Ba cs c.n i)
section
variable {α:Type} {c:EJ α} {w w':World} {B:Nat} {S S':Nat -> Prop} {e:TypeId} {xs:List α} {v:Value}
theorem AC.blk(h:AC c w B S e xs v):∀g,v.ownBlock=some g->B<=g∧g<w.heap.size:=by
 obtain⟨cs,h1,_⟩:=h;exact h1.lt
theorem AC.one(h:AC c w B S e xs v):v.oneCell'=true:=by
 obtain⟨cs,⟨_,⟨rfl,_⟩|⟨g,cap,cur,rfl,_⟩⟩,_⟩:=h<;>rfl
theorem AC.cells(h:AC c w B S e xs v):v.cells= #[v]:=by
 obtain⟨cs,⟨_,⟨rfl,_⟩|⟨g,cap,cur,rfl,_⟩⟩,_⟩:=h<;>rfl
theorem AC.base(h:AC c w B S e xs v){B':Nat}(hB:B'<=B:=by omega):AC c w B' S e xs v:=by
 obtain⟨cs,⟨h1,h2⟩,h3⟩:=h
 refine⟨cs,⟨h1,?_⟩,h3⟩
 rcases h2 with h2|⟨g,cap,cur,hv,hb,rest⟩
 ·exact .inl h2
 ·exact .inr ⟨g,cap,cur,hv,by omega,rest⟩
theorem AC.nil(c:EJ α)(w:World)(B:Nat)(S:Nat->Prop)(e:TypeId):AC c w B S e [] (.slice none 0 0):=
 ⟨[],World.ownsRow_nil w B e c.n,fun i x h=>by simp at h⟩
theorem AC.keep(h:AC c w B S e xs v)(hg:∀g,v.ownBlock=some g->w'.heap[g]? =w.heap[g]?)(hS:∀k,S k->S' k)(hk:∀k,S k->w'.heap[k]? =w.heap[k]?):AC c w' B S' e xs v:=by
 obtain⟨cs,⟨h1,h2⟩,h3⟩:=h
 refine⟨cs,⟨h1,?_⟩,fun i x hx=>c.mono (h3 i x hx) hS hk⟩
 rcases h2 with h2|⟨g,cap,cur,rfl,hb,hh,rest⟩
 ·exact .inl h2
 ·exact .inr ⟨g,cap,cur,rfl,hb,(hg g rfl).trans hh,rest⟩
theorem AC.ext[Es c](h:AC c w B (Iv 0 0) e xs v)(he:AU w w'):AC c w' B (Iv 0 0) e xs v:=
 h.keep (fun g hg=>he.block g (h.blk g hg).2) (fun _ h=>h) (fun k h=>absurd h.2 (AV k))
theorem AC.upd[Es c]{b:Nat}(h:AC c w B (Iv 0 0) e xs v)(hu:JM b w w')(hne:∀g,v.ownBlock=some g->g≠b):AC c w' B (Iv 0 0) e xs v:=
 h.keep (fun g hg=>hu.block g (hne g hg)) (fun _ h=>h) (fun k h=>absurd h.2 (AV k))
theorem AC.sl(h:AC c w B S e xs v)(hS:∀k,S k->S' k)(hB:∀k,B<=k->k<w.heap.size->S' k):AF c w S' xs v:=by
 obtain⟨cs,h0,h3⟩:=h
 have h1:=h0
 obtain⟨hl,⟨rfl,hn⟩|⟨g,cap,cur,rfl,hb,hh,h5,h6,h7,h8⟩⟩:=h1
 ·have:xs=[]:=BX hn
  subst this;exact AF.nil _ _ _
 ·have hlt:g<w.heap.size:=(CA.1 hh).1
  refine⟨some ⟨g,0,none⟩,cap,rfl,⟨h5,fun h=>by cases h⟩,by simpa [maxLen] using h6,fun hpos=>⟨g,0,rfl,hB g hb hlt,fun i x hx=>⟨_,c.mono (h3 i x hx) hS (fun _ _=>rfl),fun j u hu=>?_⟩⟩⟩
  have hjn:j<c.n:=by
   have:=(AK.1 hu).1
   simp [Ba]at this;omega
  rw [CZ hjn]at hu
  have:=h0.cells (g:=g) rfl _ _ hu
  rw [EM]at this
  rw [show 0+i*c.n+j=0+(i*c.n+j) by omega];exact⟨this,by simp [World.frozen?,hh]⟩
theorem AC.slf[Es c]{lo hi:Nat}(h:AC c w B (Iv 0 0) e xs v)(h1:lo<=B:=by omega)(h2:w.heap.size<=hi:=by omega):AF c w (Iv lo hi) xs v:=
 h.sl (fun k h=>absurd h.2 (AV k)) (fun k h3 h4=>⟨by omega,by omega⟩)
end
theorem TX{α:Type}{xs:List α}{i j:Nat}{y x:α}(h:(xs.set i y)[j]? =some x):(i=j∧x=y)∨(i≠j∧xs[j]? =some x):=by
 rw [List.getElem?_set]at h
 split at h
 ·rename_i e;subst e
  split at h
  ·injection h with h;exact .inl ⟨rfl,h.symm⟩
  ·cases h
 ·rename_i e;exact .inr ⟨e,h⟩
def Jc(cs:List Value)(p:Nat)(us:List Value):List Value:=cs.take p++us++cs.drop (p+us.length)
theorem Oe{cs us:List Value}{p:Nat}(h:p+us.length<=cs.length):(Jc cs p us).length=cs.length:=by
 simp [Jc];omega
theorem Jk{cs us:List Value}{p k:Nat}(h:p+us.length<=cs.length):(Jc cs p us)[k]? =if p<=k∧k<p+us.length then us[k-p]? else cs[k]?:=by
 have hp:(cs.take p).length=p:=by simp;omega
 unfold Jc
 by_cases h1:k<p
 ·rw [BV (by omega),Bl,Ao (by omega),Bq,BE h1]
 ·by_cases h2:k<p+us.length
  ·rw [BE (by omega),Bl,Ap (by omega),hp,Ao (by omega)]
  ·rw [BV (by omega),Ap (by simp;omega),Bx]
   congr 1
   simp;omega
section
variable {P:Program} {N:Nat} {α:Type} {c:EJ α} {w:World} {B:Nat} {S:Nat -> Prop} {e:TypeId} {xs:List α} {v:Value} {o:Oper} {K:KL}
theorem Ur{t x}(ho:o.op= .call { callee:=.builtin .len,args:=#[x],argTypes:=#[t] })(hu:P.underlying t=some (.slice e))(hx:DW K x=some v)(hs:AC c w B S e xs v):
 Gf P N K o w (.int .i64 xs.length):=by
 obtain⟨cs,⟨_,⟨rfl,hn⟩|⟨g,cap,cur,rfl,_⟩⟩,_⟩:=hs
 ·have:=Nu (N:=N) (w:=w) ho hu hx;rw [hn];exact this
 ·exact Nu ho hu hx
theorem PR{y:α}{t x i k m}(ho:o.op= .indexAddr t x i)(hu:P.underlying t=some (.slice e))(hc:CE P e=some c.n)(hx:DW K x=some v)
 (hi2:DW K i=some (.int k m)) (hs:AC c w B S e xs v) (hg:AL xs m=some y):
 YE P N K o w (fun u=>∃g us,u= .pointer (some ⟨g,0+m.toNat*c.n,none⟩)∧v.ownBlock=some g∧c.rep w S y us∧Ab w g (0+m.toNat*c.n) us):=by
 obtain⟨cs,h0,h3⟩:=hs
 obtain⟨g0,g1,g2⟩:=HH hg
 have h1:=h0
 obtain⟨hl,⟨rfl,hn⟩|⟨g,cap,cur,rfl,hb,hh,h5,h6,h7,h8⟩⟩:=h1
 ·omega
 ·refine⟨_,Ha ho hu hc hx hi2 g0 g1,g,_,rfl,rfl,h3 _ _ g2,fun j u hu=>?_⟩
  have hjn:j<c.n:=by
   have:=(AK.1 hu).1
   simp [Ba]at this;omega
  rw [CZ hjn]at hu
  have:=h0.cells (g:=g) rfl _ _ hu
  rw [EM]at this
  rw [show 0+m.toNat*c.n+j=0+(m.toNat*c.n+j) by omega];exact⟨this,by simp [World.frozen?,hh]⟩
theorem Be{t x y u g m us us' y0 y'}(j off:Nat)(ho:o.op= .store t x y)(hx:DW K x=some (.pointer (some ⟨g,off,none⟩)))(hy:DW K y=some u)(hs:AC c w B S e xs v)
 (hg:v.ownBlock=some g) (hm:AL xs m=some y0) (hoff:off=0+m.toNat*c.n+j) (hn:CE P t=some u.cells.toList.length) (h1:u.cells.toList.all Value.oneCell'=true) (hrep:c.rep w S y0 us)
 (hcl:Ab w g (0+m.toNat*c.n) us)
 (hus:us'=Jc us j u.cells.toList) (hfit:Nat.ble (j+u.cells.toList.length) us.length=true) (hrep':c.rep w S y' us') (hS:∀k,S k->k≠g):
 IP P N K o w (fun _ w'=>JM g w w'∧AC c w' B S e (xs.set m.toNat y') v):=by
 obtain⟨cs,h0,h3⟩:=hs
 obtain⟨g0,g1,g2⟩:=HH hm
 have h1':=h0
 obtain⟨hl,⟨rfl,_⟩|⟨g',cap,cur,rfl,hb,hh,h5,h6,h7,h8⟩⟩:=h1'
 ·simp [Value.ownBlock]at hg
 simp [Value.ownBlock]at hg
 subst hg
 have hfit:=EW hfit
 have husl:us.length=c.n:=c.len hrep
 have hmn:(m.toNat+1)*c.n<=xs.length*c.n:=Bh _ (by omega)
 rw [CT]at hmn
 have hcap:xs.length*c.n<=cap*c.n:=Bh _ h5
 obtain⟨ti,hi,hsz⟩:=Ag.1 hn
 have hst:=run_storeCells_at P g' off e u.cells.toList 0 cur w hh (by rw [h7];omega) (CG.1 h1)
 simp only [Fe]at hst
 intro a hK Kt Q hk
 have hr:(execOp a.eval o).run P w= .ok .skip (w.setRow g' (Jc cur.toList off u.cells.toList).toArray):=by
  simp [execOp,ho,hK.ev hx,hK.ev hy,Instr.storeAt,Instr.sureAddr,storeVar,CI,sizeOf,typeInfo,hi,hsz,Jc]at hst ⊢
  rw [hst]
  simp
 unfold Oper.wp
 rw [hr]
 clear hr hst h1 hy hsz hn ho
 revert hus hfit hk
 generalize u.cells.toList=us2
 intro hus hfit hk
 refine hk _ _ ⟨JM.setRow _ _ _,Jc cs off us2,⟨?_,.inr ⟨g',cap,_,by simp,hb,setRow_heap w g' cur _ e _ hh,by simpa using h5,h6,?_,?_⟩⟩,?_⟩
 ·rw [Oe (by rw [hl];omega),hl];simp
 ·have:=Oe (cs:=cur.toList) (us:=us2) (p:=off) (by simp [h7];omega)
  simp only [List.size_toArray,this];simpa using h7
 ·apply Ce
  intro k
  rw [Ec]
  simp only [List.toList_toArray]
  rw [Bq,Jk (cs:=cs) (by rw [hl];omega)]
  split
  ·rename_i hk2
   rw [Jk (by simp [h7];omega)]
   split
   ·rfl
   ·rw [←h8,Bq,BE hk2]
  ·rename_i hk2
   rw [BV (by omega)]
   symm;rw [Ay];omega
 ·intro i x hx2
  rcases TX hx2 with ⟨rfl,rfl⟩|⟨hne,hx3⟩
  ·have e1:Ba (Jc cs off us2) c.n m.toNat=us':=by
    apply Ce
    intro q
    by_cases hq:q<c.n
    ·rw [CZ hq,Jk (by rw [hl];omega),hus,Jk (by omega)]
     have hcq:cs[m.toNat*c.n+q]? =us[q]?:=by
      have a1:us[q]? =some (us[q]'(by omega)):=AH _
      have a2:=(hcl q _ a1).1
      have hlt2:m.toNat*c.n+q<cs.length:=by rw [hl];omega
      have a3:=h0.cells (g:=g') rfl (m.toNat*c.n+q) _ (AH hlt2)
      rw [EM]at a3
      rw [show 0+m.toNat*c.n+q=0+(m.toNat*c.n+q) by omega,a3]at a2
      rw [a1,AH hlt2];exact a2
     split
     ·rename_i hc2
      rw [BE (by omega)];congr 1;omega
     ·rename_i hc2
      rw [BV (by omega)];exact hcq
    ·rw [Ay (by simp [Ba];omega),Ay]
     rw [hus,Oe (by omega)];omega
   rw [e1]
   exact c.mono hrep' (fun _ h=>h) (fun k hk3=>setRow_other _ _ _ _ (hS k hk3))
  ·have e1:Ba (Jc cs off us2) c.n i=Ba cs c.n i:=by
    have hilt:i<xs.length:=(AK.1 hx3).1
    apply Ce
    intro q
    by_cases hq:q<c.n
    ·rw [CZ hq,CZ hq,Jk (by rw [hl];omega)]
     rw [BV]
     rcases Nat.lt_or_gt_of_ne hne with h|h
     ·have:(m.toNat+1)*c.n<=i*c.n:=Bh _ h
      rw [CT]at this;omega
     ·have:(i+1)*c.n<=m.toNat*c.n:=Bh _ h
      rw [CT]at this;omega
    ·rw [Ay (by simp [Ba];omega),Ay (by simp [Ba];omega)]
   rw [e1]
   exact c.mono (h3 i x hx3) (fun _ h=>h) (fun k hk3=>setRow_other _ _ _ _ (hS k hk3))
/-! ### make -/
def Qw(m:Int)(bytes:Nat):Option Nat:=if 0<=m∧m*bytes<=281474976710656∧m<=9223372036854775807 then some m.toNat else none
def Ev(P:Program)(t:Nat):Option (List Value×Nat×Nat):=(P.info? t).bind fun i=>i.zero.map fun z=>(z.cells.toList,i.size,i.bytes)
theorem RF{zs:List Value}{k i:Nat}(hi:i<k)(hz:0<zs.length):Ba (madeCells zs.toArray (k*zs.length)).toList zs.length i=zs:=by
 apply Ce
 intro q
 by_cases hq:q<zs.length
 ·rw [CZ hq]
  have:(i+1)*zs.length<=k*zs.length:=Bh _ hi
  rw [CT]at this
  simp only [madeCells,Array.toList_map,Array.toList_range,FO]
  rw [List.getElem?_range (by omega)]
  simp [Nat.mul_add_mod_self_right,Nat.mod_eq_of_lt hq,hq]
 ·rw [Ay (by simp [Ba];omega),Ay (by omega)]
theorem GY{t l c2 zs sz by' m m' k z kd kd'}(ho:o.op= .makeSlice t l c2)(hu:P.underlying t=some (.slice e))(hi:Ev P e=some (zs,sz,by'))(hl:DW K l=some (.int kd m))(hc:DW K c2=some (.int kd' m'))(hmm:m'=m)
 (hk:Qw m by'=some k) (hsz:sz=c.n) (hpos:Nat.blt 0 c.n=true) (hz:∀w,c.rep w (Iv 0 0) z zs):
 IP P N K o w (fun u w'=>∃g,u= .slice (some ⟨g,0,none⟩) k k∧g=w.heap.size∧w'.heap.size=w.heap.size+1∧AU w w'∧AC c w' g (Iv 0 0) e (List.replicate k z) u):=by
 subst hmm
 unfold Ev at hi
 obtain⟨i,hi1,hi2⟩:=Cy.1 hi
 obtain⟨zv,hz1,hz2⟩:=Ag.1 hi2
 simp only [DI]at hz2
 obtain⟨e1,e2,e3⟩:=hz2
 unfold Qw at hk
 split at hk
 ·rename_i hm
  injection hk with hk
  have hlen:zs.length=c.n:=c.len (hz w)
  have hr:=run_make (P:=P) w t e i zv hu hi1 hz1 kd kd' m' m' hm.1 (ED _) (by rw [e3,Int.mul_comm];exact hm.2.1) hm.2.2
  intro a hK Kt Q hkk
  have hr2:(execOp a.eval o).run P w= .ok (.value (.slice (some ⟨w.heap.size,0,none⟩) m'.toNat m'.toNat)) (w.alloc (.cells (madeCells zv.cells (m'.toNat*i.size)) e)):=by
   simp [execOp,ho,hK.ev hl,hK.ev hc,hr]
  unfold Oper.wp
  rw [hr2]
  refine hkk _ _ ⟨w.heap.size,by rw [hk],rfl,by simp,AU.alloc _ _,?_⟩
  have hp:0<c.n:=by have h:=hpos;simp [Nat.blt]at h;omega
  have hzc:zv.cells=zs.toArray:=by rw [←e1]
  refine⟨(madeCells zv.cells (m'.toNat*i.size)).toList,⟨?_,.inr ⟨w.heap.size,k,_,by rw [List.length_replicate,hk],BN _,heap_alloc_new w _,by simp,by simp only [maxLen];omega,?_,?_⟩⟩,?_⟩
  ·simp [GK,e2,hsz,hk]
  ·simp [GK,e2,hsz,hk]
  ·rw [EN];simp [GK,e2,hsz,hk]
  ·intro q x hx
   have hq:q<k:=by have:=(AK.1 hx).1;simpa using this
   have hxz:x=z:=by simpa [hq] using hx.symm
   subst hxz
   rw [hzc,e2,hsz,←hlen,hk,RF hq (by omega)]
   exact c.mono (hz w) (fun _ h=>h) (fun k h=>absurd h.2 (AV k))
 ·cases hk
end
end Go.Eng
namespace Go.Eng
open Go Go.RowKit
/-! ## append, literals -/
def De{α:Type}(xs ys:List α)(bytes:Nat):Option (List α):=if (xs.length+ys.length)*bytes<=140737488355328∧xs.length+ys.length<=9223372036854775807 then some (xs++ys)else none
def DD:List (List Value)->List Value
 |[]=>[]
 |us::uss=>us++DD uss
theorem JR{n:Nat}:∀{uss:List (List Value)},(∀us∈uss,us.length=n)->(DD uss).length=uss.length*n
 |[],_=>by simp [DD]
 |us::uss,h=>by
  simp only [DD,Bk,CM,CT]
  rw [h us (Bg ..),JR (fun x hx=>h x (Cd _ hx))]
  omega
theorem MM{n:Nat}:∀{uss:List (List Value)} {i q:Nat} {us:List Value},(∀us∈uss,us.length=n)->uss[i]? =some us->q<n->(DD uss)[i*n+q]? =us[q]?
 |[],i,q,us,_,h,_=>by simp at h
 |u0::uss,0,q,us,hl,h,hq=>by
  simp at h;subst h
  simp only [DD]
  rw [Ao (by rw [hl u0 (Bg ..)];omega)]
  congr 1;omega
 |u0::uss,i+1,q,us,hl,h,hq=>by
  have hl0:=hl u0 (Bg ..)
  simp only [DD]
  rw [Ap (by rw [hl0,CT];omega)]
  have:=MM (uss:=uss) (i:=i) (q:=q) (fun x hx=>hl x (Cd _ hx)) (by simpa using h) hq
  rw [←this]
  congr 1
  rw [hl0,CT];omega
theorem OJ{n:Nat}{uss:List (List Value)}{i:Nat}{us:List Value}(hl:∀us∈uss,us.length=n)(h:uss[i]? =some us):Ba (DD uss) n i=us:=by
 have hus:=hl us (CL h)
 apply Ce
 intro q
 by_cases hq:q<n
 ·rw [CZ hq,MM hl h hq]
 ·rw [Ay (by simp [Ba];omega),Ay (by omega)]
theorem AF.all'{α:Type}{c:EJ α}{w:World}{S:Nat->Prop}{xs:List α}{v:Value}(h:AF c w S xs v)(hn:0<c.n):
 ∃uss:List (List Value),uss.length=xs.length∧(∀us∈uss,us.length=c.n)∧(∀(i:Nat) (x:α) (us:List Value),xs[i]? =some x->uss[i]? =some us->c.rep w S x us)∧
  ∃(a:Option Addr) (cap:Nat),v= .slice a xs.length cap∧(a=none->cap=0)∧(xs.length=0∨∃b off,a=some ⟨b,off,none⟩∧S b∧∀j u,(DD uss)[j]? =some u->w.cell? ⟨b,off+j,none⟩=some u):=by
 obtain⟨a,cap,rfl,h2,h3,h4⟩:=h
 by_cases hl:0<xs.length
 ·obtain⟨b,off,rfl,hb,h5⟩:=h4 hl
  have hch:∀i,i<xs.length->∃us,∀x,xs[i]? =some x->c.rep w S x us∧Ab w b (off+i*c.n) us:=by
   intro i hi
   obtain⟨us,h6⟩:=h5 i _ (AH hi)
   refine⟨us,fun x hx=>?_⟩
   have:x=xs[i]:=by rw [AH hi]at hx;exact(AM hx).symm
   subst this;exact h6
  obtain⟨f,hf⟩:=Go.Deep.choose_lt hch
  have hlen:∀us∈(List.range xs.length).map f,us.length=c.n:=by
   intro us hus
   obtain⟨i,hi,rfl⟩:=Dm.1 hus
   exact c.len (hf i (GL.1 hi) _ (AH (GL.1 hi))).1
  refine⟨(List.range xs.length).map f,by simp,hlen,?_,some ⟨b,off,none⟩,cap,rfl,h2.2,.inr ⟨b,off,rfl,hb,?_⟩⟩
  ·intro i x us hx hus
   have hi:i<xs.length:=(AK.1 hx).1
   simp [hi]at hus;subst hus
   exact(hf i hi x hx).1
  ·intro j u hu
   have hj:j<xs.length*c.n:=by
    have:=(AK.1 hu).1
    rw [JR hlen]at this;simpa using this
   have hi:j/c.n<xs.length:=Nat.div_lt_of_lt_mul (by rw [Nat.mul_comm];exact hj)
   have hd:j/c.n*c.n+j%c.n=j:=by rw [Nat.mul_comm];exact Nat.div_add_mod j c.n
   have hg:=MM (uss:=(List.range xs.length).map f) (i:=j/c.n) (q:=j%c.n) (us:=f (j/c.n)) hlen (by simp [hi]) (Nat.mod_lt _ hn)
   rw [hd,hu]at hg
   have:=(hf _ hi _ (AH hi)).2 (j%c.n) u hg.symm
   rw [show off+j/c.n*c.n+j%c.n=off+j by omega]at this;exact this.1
 ·refine⟨[],by simp;omega,by simp,fun i x us hx hus=>by simp at hus,a,cap,rfl,h2.2,.inl (by omega)⟩
theorem WN{P:Value->Bool}:∀{uss:List (List Value)},(∀us∈uss,us.all P=true)->∀u∈DD uss,P u=true
 |[],_=>by simp [DD]
 |us::uss,h=>by
  intro u hu
  simp only [DD,BR]at hu
  rcases hu with hu|hu
  ·exact CG.1 (h us (Bg ..)) u hu
  ·exact WN (fun x hx=>h x (Cd _ hx)) u hu
section
variable {P:Program} {N:Nat} {α:Type} {c:EJ α} {w:World} {B:Nat} {S S' S2:Nat -> Prop} {e:TypeId} {xs ys zs:List α} {v:Value} {o:Oper} {K:KL}
def Ah(w w':World)(v v':Value):Prop:=w.grownBy w' v.ownBlock∧∀g,v'.ownBlock=some g->v.ownBlock=some g∨w.heap.size<=g
theorem Ou{t x y u zc sz by'}(ho:o.op= .call { callee:=.builtin .append,args:=#[x,y],argTypes:=#[t,t] })(hu:P.underlying t=some (.slice e))(hi:Ev P e=some (zc,sz,by'))(hsz:sz=c.n)(hzc:zc.length=sz)
 (hpos:Nat.blt 0 c.n=true) (hx:DW K x=some v) (hy:DW K y=some u) (hs:AC c w B S e xs v) (hb:B<=w.heap.size) (hr:AF c w S2 ys u) (ha:De xs ys by'=some zs)
 (hS:∀k,S k->S' k) (hS2:∀x us,c.rep w S2 x us->c.rep w S' x us) (hS3:∀k,S' k->k<w.heap.size∧v.ownBlock≠some k):
 IP P N K o w (fun v' w'=>AC c w' B S' e zs v'∧Ah w w' v v'):=by
 have hp:0<c.n:=by have h:=hpos;simp [Nat.blt]at h;omega
 obtain⟨cs,h0,h3⟩:=hs
 obtain⟨uss,hul,hun,hur,a,cap,rfl,hnone,hcase⟩:=AF.all' hr hp
 unfold Ev at hi
 obtain⟨i,hi1,hi2⟩:=Cy.1 hi
 obtain⟨z,hz1,hz2⟩:=Ag.1 hi2
 simp only [DI]at hz2
 obtain⟨e1,e2,e3⟩:=hz2
 unfold De at ha
 split at ha
 case isFalse=>cases ha
 rename_i hbound
 injection ha with ha;subst ha
 intro a' hK Kt Q hk
 have hcl:(DD uss).length=ys.length*c.n:=by rw [JR hun,hul]
 have elems:∀(w':World),w.grownBy w' v.ownBlock->∀q x,(xs++ys)[q]? =some x->c.rep w' S' x (Ba (cs++DD uss) c.n q):=by
  intro w' hgr q x hx2
  have keep:∀k,S' k->w'.heap[k]? =w.heap[k]?:=fun k hk=>hgr.block k (hS3 k hk).1 (fun e=>(hS3 k hk).2 e.symm)
  by_cases hq:q<xs.length
  ·rw [Ao hq]at hx2
   have e4:Ba (cs++DD uss) c.n q=Ba cs c.n q:=by
    apply Ce
    intro j
    by_cases hj:j<c.n
    ·rw [CZ hj,CZ hj,Ao]
     have:(q+1)*c.n<=xs.length*c.n:=Bh _ hq
     rw [CT]at this;rw [h0.1];omega
    ·rw [Ay (by simp [Ba];omega),Ay (by simp [Ba];omega)]
   rw [e4];exact c.mono (h3 q x hx2) hS (fun k hk=>keep k (hS k hk))
  ·rw [Ap (by omega)]at hx2
   have hq2:q-xs.length<uss.length:=by rw [hul];exact(AK.1 hx2).1
   have e4:Ba (cs++DD uss) c.n q=uss[q-xs.length]:=by
    have:=OJ (i:=q-xs.length) hun (AH hq2)
    rw [←this]
    apply Ce
    intro j
    by_cases hj:j<c.n
    ·rw [CZ hj,CZ hj]
     have h5:xs.length*c.n<=q*c.n:=Bh _ (by omega)
     rw [Ap (by rw [h0.1];omega)]
     congr 1
     rw [h0.1,Nat.sub_mul];omega
    ·rw [Ay (by simp [Ba];omega),Ay (by simp [Ba];omega)]
   rw [e4];exact c.mono (hS2 _ _ (hur _ x _ hx2 (AH hq2))) (fun _ h=>h) (fun k hk=>keep k hk)
 have hzs2:z.cells.size=c.n:=by rw [←hsz,←hzc,←e1];simp
 have one:∀u∈DD uss,u.oneCell'=true:=WN fun us hus=>by
  obtain⟨q,hq,rfl⟩:=FV.1 hus
  exact c.one (hur q _ _ (AH (by omega)) (AH hq))
 have step:∀v' w',(Builtin.append_ #[t,t] o.type #[v,.slice a ys.length cap]).run P w= .ok v' w'->(execOp a'.eval o).run P w= .ok (.value v') w':=by
  intro v' w' hrun
  unfold execOp
  simp only [ho,resolve,invoke,builtin,CI,Dg,Cm,List.map_toArray,Eh,List.map_nil,hK.ev hx,hK.ev hy,hrun]
 cases a with
 |none=>
  have hc0:=hnone rfl
  subst hc0
  have hy0:ys.length=0:=by
   rcases hcase with h|⟨b,off,h,_⟩
   ·exact h
   ·cases h
  have hys:ys=[]:=BX hy0
  subst hys
  have hrun:=run_append_owned_none (P:=P) w B t o.type e i c.n hu hi1 v xs.length cs h0
  unfold Oper.wp
  rw [step v w hrun]
  have hgr:w.grownBy w v.ownBlock:=World.grownBy.refl w _
  have huss:uss=[]:=BX (by simpa using hul)
  subst huss
  refine hk _ _ ⟨⟨cs,by simpa using h0,fun q x hx2=>?_⟩,hgr,fun g hg=>.inl hg⟩
  have:=elems w hgr q x hx2
  simpa [DD] using this
 |some ad=>
  have hnews:∀j u,(DD uss)[j]? =some u->w.cell? (ad.add j)=some u:=by
   intro j u hu2
   rcases hcase with h|⟨b,off,h,_,h5⟩
   ·have:uss=[]:=BX (by omega)
    subst this;simp [DD]at hu2
   ·injection h with h;subst h
    rw [EM];exact h5 j u hu2
  have hb2:(xs.length+ys.length)*by'<=140737488355328:=hbound.1
  obtain⟨v',w',hrun,hown,hgr,_⟩:=run_append_own (P:=P) w B t o.type e i z c.n by' hu hi1 hz1 (by rw [e2,hsz]) e3 hzs2 hp v xs.length cs h0 ad ys.length cap (DD uss) hcl hnews one (by simp only [maxLen];omega) hb2 hb
  have hfresh:∀g,v'.ownBlock=some g->v.ownBlock=some g∨w.heap.size<=g:=by
   rcases h0.2 with ⟨rfl,hn⟩|⟨g0,cap0,cur,rfl,hbg,hh,h5,h6,h7,h8⟩
   ·have hnil:w.ownsRow w.heap.size e c.n (.slice none 0 0) xs.length cs:=⟨h0.1,.inl ⟨rfl,hn⟩⟩
    obtain⟨v2,w2,hrun2,hown2,_⟩:=run_append_own (P:=P) w w.heap.size t o.type e i z c.n by' hu hi1 hz1 (by rw [e2,hsz]) e3 hzs2 hp _ xs.length cs hnil ad ys.length cap (DD uss) hcl hnews one (by simp only [maxLen];omega) hb2 (BN _)
    rw [hrun]at hrun2
    injection hrun2 with e5 e6
    subst e5
    intro g hg;exact .inr (hown2.lt g hg).1
   ·by_cases hroom:xs.length+ys.length<=cap0
    ·have hfit:xs.length*i.size+(DD uss).length<=cur.size:=by
      rw [hcl,h7,e2,hsz,←CT];exact Bh _ hroom
     have hr2:=run_append_room (P:=P) w t o.type e i hu hi1 g0 xs.length cap0 cur hh ad ys.length cap (DD uss) (by rw [e2,hsz];exact hcl) hnews one hroom hfit
     rw [hrun]at hr2
     injection hr2 with e5 e6
     subst e5
     intro g hg;exact .inl hg
    ·have holds:∀j u,cs[j]? =some u->w.cell? ((⟨g0,0,none⟩:Addr).add j)=some u:=h0.cells (g:=g0) rfl
     have hr2:=run_append_grow (P:=P) w t o.type e i z hu hi1 hz1 ⟨g0,0,none⟩ xs.length cap0 cs (by rw [e2,hsz];exact h0.1) holds ad ys.length cap (DD uss) (by rw [e2,hsz];exact hcl) hnews (by omega) (by omega) (growslice_fits (by omega) (by rw [e3];exact hb2))
     rw [hrun]at hr2
     injection hr2 with e5 e6
     subst e5
     intro g hg
     simp [Value.ownBlock]at hg
     exact .inr (by omega)
  unfold Oper.wp
  rw [step v' w' hrun]
  exact hk _ _ ⟨⟨cs++DD uss,by simpa using hown,elems w' hgr⟩,hgr,hfresh⟩
end
end Go.Eng
namespace Go.Eng
open Go Go.RowKit
/-! ## Literals -/
def Mw(pl:List (Nat×Nat)):List Value->List (Nat×List Value)->Option (List Value)
 |zs,[]=>some zs
 |zs,(i,us)::ps=>match pl[i]? with
  |none=>none
  |some (off,size)=>if Nat.beq us.length size&&Nat.ble (off+us.length) zs.length then Mw pl (zs.take off++us++zs.drop (off+us.length)) ps else none
theorem Xc(us:List Value):∀(off k:Nat) (cs:Array Value),off+k+us.length<=cs.size->
 ((us.zipIdx k).foldl (fun cs (p:Value×Nat)=>cs.setIfInBounds (off+p.2) p.1) cs).toList=cs.toList.take (off+k)++us++cs.toList.drop (off+k+us.length):=by
 induction us with
 |nil=>intro off k cs h;simp
 |cons u us ih=>
  intro off k cs h
  simp only [CM]at h
  simp only [List.zipIdx_cons,EE]
  rw [ih off (k+1) _ (by simp;omega)]
  apply Ce
  intro j
  simp only [Array.toList_setIfInBounds,CM]
  have e1:off+(k+1)=off+k+1:=by omega
  have e2:off+k+1+us.length=off+k+(us.length+1):=by omega
  rw [e1,e2]
  have hl:(cs.toList.take (off+k)).length=off+k:=by simp;omega
  have hl2:((cs.toList.set (off+k) u).take (off+k+1)).length=off+k+1:=by simp;omega
  by_cases h1:j<off+k
  ·rw [Bl,Ao (by omega),Bl,Ao (by omega),Bq,Bq,BE (by omega),BE h1,List.getElem?_set_ne (by omega)]
  ·by_cases h2:j=off+k
   ·subst h2
    rw [Bl,Ao (by omega),Bl,Ap (by omega),hl,Bq,BE (by omega),List.getElem?_set_self (by simp;omega)]
    simp
   ·by_cases h3:j<off+k+(us.length+1)
    ·rw [Bl,Ap (by omega),hl2,Ao (by omega),Bl,Ap (by omega),hl,List.cons_append,show j-(off+k)=(j-(off+k+1))+1 by omega,List.getElem?_cons_succ,Ao (by omega)]
    ·rw [Ap (by simp;omega),Ap (by simp;omega),Bx,Bx]
     simp only [Bk,hl,hl2,CM]
     rw [List.getElem?_set_ne (by omega)]
     congr 1;omega
theorem Qx{place:Nat->Option (Nat×Nat)}{pl:List (Nat×Nat)}(hp:∀i x,pl[i]? =some x->place i=some x):∀(ps:List (Nat×Value)) (uss:List (Nat×List Value)) (cs:Array Value) (out:List Value),
 ps.map (fun p=>(p.1,p.2.cells.toList))=uss->Mw pl cs.toList uss=some out->Instr.fill place cs ps=some out.toArray
 |[],uss,cs,out,h,hf=>by
  simp at h;subst h
  simp [Mw]at hf;subst hf
  simp [Instr.fill]
 |(i,v)::ps,uss,cs,out,h,hf=>by
  simp at h;subst h
  simp only [Mw]at hf
  split at hf
  ·cases hf
  ·rename_i off size hpl
   split at hf
   ·rename_i hc
    simp only [AD,EG]at hc
    have hc1:v.cells.size=size:=Az hc.1
    have hc2:off+v.cells.size<=cs.size:=EW hc.2
    rw [Instr.fill,hp i _ hpl]
    simp only
    rw [BV (by simp [hc1];omega)]
    refine Qx hp ps _ _ out rfl ?_
    have:=Xc v.cells.toList off 0 cs (by simp;omega)
    have e:(v.cells.zipIdx.foldl (fun cs (p:Value×Nat)=>cs.setIfInBounds (off+p.2) p.1) cs).toList=cs.toList.take off++v.cells.toList++cs.toList.drop (off+v.cells.toList.length):=by
     rw [←Array.foldl_toList,Array.toList_zipIdx]
     simpa using this
    rw [e];exact hf
   ·cases hf
def EF(P:Program)(t:Nat):Option (List (Nat×Nat)):=
 match P.underlying t with
 |some (.struct fs)=>fs.toList.mapM fun f=>(P.info? f.type).map fun i=>(f.offset,i.size)
 |some (.array n e)=>(P.info? e).map fun i=>(List.range n).map fun k=>(k*i.size,i.size)
 |_=>none
def MD(K:KL):List (Nat×Operand)->Option (List (Nat×Value))
 |[]=>some []
 |(i,x)::xs=>match DW K x,MD K xs with|some v,some vs=>some ((i,v)::vs)|_,_=>none
section
variable {P:Program} {N:Nat} {α:Type} {c:EJ α} {w:World} {B:Nat} {S S':Nat -> Prop} {e:TypeId} {xs ys zs:List α} {v:Value} {o:Oper} {K:KL}
theorem Kn.parts{a}(h:Kn N K a):∀{xs vs},MD K xs=some vs->xs.map (fun(p:Nat×Operand)=>(p.1,a.eval p.2))=vs
 |[],vs,e=>by simp [MD]at e;subst e;rfl
 |(i,x)::xs,vs,e=>by
  unfold MD at e
  split at e
  ·rename_i v vs' h1 h2
   injection e with e;subst e
   simp [h.ev h1,h.parts h2]
  ·cases e
theorem Vf{fs:List Field}{pl:List (Nat×Nat)}(h:fs.mapM (fun f=>(P.info? f.type).map fun i=>(f.offset,i.size))=some pl)(w:World):
 (fs.mapM (m:=Sem) fun f=>do pure (f.offset,←sizeOf f.type)).run P w= .ok pl w:=by
 induction fs generalizing pl with
 |nil=>simp at h;subst h;simp
 |cons f fs ih=>
  simp only [List.mapM_cons,Option.bind_eq_bind,Cy,Option.pure_def,DE]at h
  obtain⟨p,h1,ps,h2,rfl⟩:=h
  obtain⟨i,hi,rfl⟩:=Ag.1 h1
  have:=ih h2
  simp [List.mapM_cons,sizeOf,typeInfo,hi]at this ⊢
  simp [this]
theorem Bt{t parts vs uss zc pl out}(ho:o.op= .build t parts)(hp:MD K parts.toList=some vs)(hz:Fi P t=some zc)(hpl:EF P t=some pl)
 (hu:vs.map (fun p=>(p.1,p.2.cells.toList))=uss) (hf:Mw pl zc uss=some out):Gf P N K o w (.agg out.toArray):=by
 intro a hK w' _
 have e1:=hK.parts hp
 unfold Fi at hz
 obtain⟨i,hi,hz2⟩:=Cy.1 hz
 obtain⟨z,hz3,hz4⟩:=Ag.1 hz2
 have ep:(parts.map fun(p:Nat×Operand)=>(p.1,a.eval p.2)).toList=vs:=by rw [Array.toList_map];exact e1
 unfold EF at hpl
 split at hpl
 ·rename_i fs hus
  have hr:=Vf hpl w'
  have hfill:=Qx (place:=fun i=>pl[i]?) (pl:=pl) (fun i x h=>h) vs uss z.cells out hu (by rw [hz4];exact hf)
  simp only [execOp,ho,Instr.build,zeroValue,typeInfo,CI,Cm,Dg,BZ hus]
  have hm:(fs.mapM (m:=Sem) fun f=>do pure (f.offset,←sizeOf f.type)).run P w'= .ok pl.toArray w':=by
   rw [show fs=fs.toList.toArray by simp,List.mapM_toArray]
   have hr':=hr
   simp at hr' ⊢
   simp [hr']
  simp [hi,hz3]
  simp at hm
  rw [hm]
  have ep2:(Array.map (fun x=>(x.fst,a.eval x.snd)) parts).toList=vs:=ep
  simp at ep2
  simp [ep2,hfill]
 ·rename_i n e hus
  obtain⟨j,hj,rfl⟩:=Ag.1 hpl
  have hfill:=Qx (place:=fun i=>some (i*j.size,j.size)) (pl:=(List.range n).map fun k=>(k*j.size,j.size)) (fun i x h=>by
   have hin:i<n:=by have:=(AK.1 h).1;simpa using this
   simpa [hin] using h) vs uss z.cells out hu (by rw [hz4];exact hf)
  have ep2:(Array.map (fun x=>(x.fst,a.eval x.snd)) parts).toList=vs:=ep
  simp at ep2
  simp [execOp,ho,Instr.build,zeroValue,typeInfo,BZ hus,hi,hz3,sizeOf,hj,ep2,hfill]
 ·cases hpl
theorem Hy{t len parts vs uss zc sz by' out}(ho:o.op= .buildSlice t len parts)(hu:P.underlying t=some (.slice e))(hi:Ev P e=some (zc,sz,by'))(hp:MD K parts.toList=some vs)
 (huss:vs.map (fun p=>(p.1,p.2.cells.toList))=uss) (hf:Mw ((List.range len).map fun k=>(k*sz,sz)) (madeCells zc.toArray (len*sz)).toList uss=some out)
 (hsm:Nat.ble (len*sz) 16777216=true) (hsz:sz=c.n) (hpos:Nat.blt 0 c.n=true) (hl:len=xs.length) (hrep:∀i x,xs[i]? =some x->c.rep w S x (Ba out c.n i)) (hS:∀k,S k->k<w.heap.size) (hol:out.length=len*sz):
 IP P N K o w (fun u w'=>∃g,u= .slice (some ⟨g,0,none⟩) len len∧g=w.heap.size∧w'.heap.size=w.heap.size+1∧AU w w'∧AC c w' g S e xs u):=by
 intro a hK Kt Q hk
 have e1:=hK.parts hp
 unfold Ev at hi
 obtain⟨i,hi1,hi2⟩:=Cy.1 hi
 obtain⟨z,hz1,hz2⟩:=Ag.1 hi2
 simp only [DI]at hz2
 obtain⟨e3,e4,e5⟩:=hz2
 have hsm:=EW hsm
 have ep:(parts.map fun(p:Nat×Operand)=>(p.1,a.eval p.2)).toList=vs:=by rw [Array.toList_map];exact e1
 have hzc:z.cells=zc.toArray:=by rw [←e3]
 have hfill:=Qx (place:=fun i=>some (i*sz,sz)) (pl:=(List.range len).map fun k=>(k*sz,sz)) (fun i x h=>by
  have hin:i<len:=by have:=(AK.1 h).1;simpa using this
  simpa [hin] using h) vs uss (madeCells zc.toArray (len*sz)) out huss hf
 have hr:(execOp a.eval o).run P w= .ok (.value (.slice (some ⟨w.heap.size,0,none⟩) len len)) (w.alloc (.cells out.toArray e)):=by
  have ep2:(Array.map (fun x=>(x.fst,a.eval x.snd)) parts).toList=vs:=ep
  have hle:¬(16777216<len*sz):=by omega
  by_cases h0:len*sz=0
  ·have hm:madeCells zc.toArray (len*sz)= #[]:=by rw [h0];simp [madeCells]
   rw [hm]at hfill
   simp at ep2
   simp [execOp,ho,Instr.buildSlice,BZ hu,sizeOf,typeInfo,hi1,e4,h0,ep2,Array.range_zero']
   skip
   simp [hfill,newRow,newObj]
   try simp [Sem.run,Result.andThen]
  ·simp at ep2
   simp [execOp,ho,Instr.buildSlice,BZ hu,sizeOf,typeInfo,hi1,e4,h0,hle,ep2,zeroValue,hz1]
   have hm:(Array.map (fun x=>z.cells[x%z.cells.size]!) (Array.range (len*sz)))=madeCells zc.toArray (len*sz):=by rw [hzc];rfl
   skip
   simp [hm,hfill,newRow,newObj]
   try simp [Sem.run,Result.andThen]
 unfold Oper.wp
 rw [hr]
 refine hk _ _ ⟨w.heap.size,rfl,rfl,by simp,AU.alloc _ _,out,?_,fun q x hx=>c.mono (hrep q x hx) (fun _ h=>h) (fun k hk=>Below.heap_alloc w _ k (hS k hk))⟩
 have h1:=World.ownsRow_lit (e:=e) (size:=c.n) w out.toArray len (BN w.heap.size) (by
  have:len<=len*sz:=Nat.le_mul_of_pos_right _ (by have h:=hpos;simp [Nat.blt]at h;omega)
  simp only [maxLen];omega) (by simp [hol,hsz])
 rw [←hl]
 simpa using h1
end
end Go.Eng
namespace Go.Eng
open Go Go.RowKit
/-! ## Regions whose order is drawn, with operations that act -/
section
variable {P:Program} {N:Nat} {ops:Array Oper} {Q:Exit -> Act -> World -> Prop} {md:Region.Mode} {S S':World -> Prop} {n:Nat}
def Ek(P:Program)(md:Region.Mode)(ops:Array Oper)(n:Nat)(Q:Exit->Act->World->Prop)(S:World->Prop):Nat->Array Bool->Act->World->Prop
 |0,listed,a,w=>Region.ready md ops listed=[]∧Q .normal a w
 |f+1,listed,a,w=>(Region.ready md ops listed=[]->Q .normal a w)∧
  ∀i∈Region.ready md ops listed,wpOp P ops Q i (fun a' w'=>(i<n->S w')∧Ek P md ops n Q S f (listed.setIfInBounds i true) a' w') a w
theorem Ek.any:∀(f:Nat) (listed:Array Bool) (a:Act) (w:World),Ek P md ops n Q S f listed a w->wpAny P md ops Q f listed a w
 |0,_,_,_,h=>h
 |f+1,_,_,_,h=>⟨h.1,fun i hi=>wpOp_mono (fun a' w' h'=>Ek.any f _ a' w' h'.2) (h.2 i hi)⟩
theorem Ek.mono(hS:∀w,S' w->S w):∀(f:Nat) (listed:Array Bool) (a:Act) (w:World),Ek P md ops n Q S' f listed a w->Ek P md ops n Q S f listed a w
 |0,_,_,_,h=>h
 |f+1,_,_,_,h=>⟨h.1,fun i hi=>wpOp_mono (fun a' w' h'=>⟨fun hn=>hS _ (h'.1 hn),Ek.mono hS f _ a' w' h'.2⟩) (h.2 i hi)⟩
theorem Ek.first{i:Nat}{oi:Oper}{v:Value}(hi:ops[i]? =some oi)(hin:i<n)(hnn:n<=ops.size)(hsel:∀(j:Nat) (o:Oper) cs b,ops[j]? =some o->o.op≠ .select cs b)
 (htail:n=ops.size∨(Region.sinkB md ops n=true∧Region.chainB md ops n=true∧n<ops.size))
 (hQ:∀c a w,Q (.panic c) (a.put oi.dst v) w->Q (.panic c) a w):
 ∀(f:Nat) (listed:Array Bool) (a:Act) (w:World),HeadInv md ops n listed->
  (∀j oj,ops[j]? =some oj->j≠i->listed.getD j true=false->(∀e∈oj.after,Region.binds md e=true->e.on≠i)->oi.apart ops oj=true)->
  i∈Region.ready md ops listed->YieldsIf P ops S oi v a->S w->
  Ek P md ops n Q S f (listed.setIfInBounds i true) (a.put oi.dst v) w->Ek P md ops n Q S (f+1) listed a w:=by
 have headonly:∀listed,HeadInv md ops n listed->i∈Region.ready md ops listed->∀j∈Region.ready md ops listed,j<n:=by
  intro listed inv hr j hj
  have hjs:j<ops.size:=by
   obtain⟨_,oj,hoj,_⟩:=mem_ready.1 hj
   exact(CA.1 hoj).1
  rcases htail with h|⟨h1,h2,h3⟩
  ·omega
  ·rcases Nat.lt_or_ge j n with h|h
   ·exact h
   ·exact absurd hj (tail_waits h1 h2 h3 inv _ i rfl hin (mem_ready.1 hr).1 j h)
 intro f
 induction f with
 |zero=>
  intro listed a w inv _ hr hy hS H
  refine⟨fun h=>(by rw [h]at hr;cases hr),fun j hj=>?_⟩
  by_cases hji:j=i
  ·subst hji;exact hy.wpOp hi hS ⟨fun _=>hS,H⟩
  ·have:=ready_mono hj hji
   rw [H.1]at this
   cases this
 |succ f ih=>
  intro listed a w inv hfree hr hy hS H
  refine⟨fun h=>(by rw [h]at hr;cases hr),fun j hj=>?_⟩
  have hjn:=headonly listed inv hr j hj
  by_cases hji:j=i
  ·subst hji;exact hy.wpOp hi hS ⟨fun _=>hS,H⟩
  ·have h1:=H.2 j (ready_mono hj hji)
   obtain⟨hjun,oj,hoj,hall⟩:=mem_ready.1 hj
   have hnot:∀e∈oj.after,Region.binds md e=true->e.on≠i:=fun e he hb heq=>by
    have h1:=hall e he hb
    rw [heq,getD_both (mem_ready.1 hr).1]at h1
    cases h1
   have h2:=wpOp_putIf hoj (hfree j oj hoj hji hjun hnot) (fun cs b=>hsel i oi cs b hi) (fun cs b=>hsel j oj cs b hoj) hQ hy h1
   have hfree':∀k ok,ops[k]? =some ok->k≠i->(listed.setIfInBounds j true).getD k true=false->
    (∀e∈ok.after,Region.binds md e=true->e.on≠i)->oi.apart ops ok=true:=fun k ok hk hki hun hno=>by
    refine hfree k ok hk hki ?_ hno
    by_cases hjk:j=k
    ·subst hjk;exact hjun
    ·rw [getD_set_ne true hjk]at hun;exact hun
   refine wpOp_mono (fun a' w' h3=>⟨fun _=>h3.2.1 hjn,ih (listed.setIfInBounds j true) a' w' (inv.set hj hjn) hfree' (ready_mono hr (Ne.symm hji)) h3.1 (h3.2.1 hjn) ?_⟩) h2
   rw [Array.setIfInBounds_comm _ _ hji]
   exact h3.2.2
theorem Ek.seq{Q':Exit->Act->World->Prop}:∀(l:List Oper) (k:Nat) (listed:Array Bool) (a:Act) (w:World),(∀j,l[j]? =ops[k+j]?)->n<=k->
 Region.seqB md ops l.length k listed=true->wpList P ops Q' l a w->Ek P md ops n Q' S l.length listed a w
 |[],k,listed,a,w,hl,hk,hB,h=>⟨by simpa [Region.seqB] using hB,h⟩
 |o::l,k,listed,a,w,hl,hk,hB,h=>by
  have h0:ops[k]? =some o:=by simpa using (hl 0).symm
  simp only [CM,Region.seqB,AD,AP]at hB
  refine⟨fun h1=>(by rw [hB.1]at h1;cases h1),fun i hi=>?_⟩
  rw [hB.1]at hi
  have hik:i=k:=by simpa using hi
  subst hik
  have hw:wpOp P ops Q' i (wpList P ops Q' l) a w:=by unfold wpOp;simp only [h0];exact h
  exact wpOp_mono (fun a' w' h'=>⟨fun h=>absurd h (by omega),Ek.seq l (i+1) _ a' w' (fun j=>by have:=hl (j+1);simpa [Nat.add_assoc,Nat.add_comm 1 j] using this) (by omega) hB.2 h'⟩) hw
def HL(P:Program)(N:Nat)(ops:Array Oper)(n:Nat)(Q:Exit->Act->World->Prop)(w0:World)(f:Nat)(listed:Array Bool)(K:KL)(w:World):Prop:=
 HeadInv .any ops n listed->AU w0 w->∀a,Kn N K a->Ek P .any ops n Q (fun w'=>AU w0 w') f listed a w
def noPan(Q:Exit->Act->World->Prop):Exit->Act->World->Prop
 | .panic _,_,_=>False
 |e,a,w=>Q e a w
def Fo(ops:Array Oper)(n:Nat):Bool:=Region.noSelect ops&&Nat.ble n ops.size&&(Nat.beq n ops.size||(Region.sinkB .any ops n&&Region.chainB .any ops n&&Nat.blt n ops.size))
theorem Fo.spec(h:Fo ops n=true):Region.noSelect ops=true∧n<=ops.size∧(n=ops.size∨(Region.sinkB .any ops n=true∧Region.chainB .any ops n=true∧n<ops.size)):=by
 unfold Fo at h
 simp only [AD,CN]at h
 refine⟨h.1.1,EW h.1.2,?_⟩
 rcases h.2 with h|h
 ·exact .inl (Az h)
 ·refine .inr ⟨h.1.1,h.1.2,?_⟩
  have h2:=h.2;simp [Nat.blt]at h2;omega
variable {K:KL} {w w0:World} {f:Nat} {listed:Array Bool}
theorem HL.yld{o:Oper}{v:Value}(i:Nat)(hh:Fo ops n=true)(hi:ops[i]? =some o)(hc:(Nat.blt i n&&Region.free .any ops listed i&&(Region.ready .any ops listed).contains i)=true)(hg:o.guard=none)(hd:EC N o.dst=true)
 (h:Gf P N K o w0 v) (k:HL P N ops n (noPan Q) w0 f (listed.setIfInBounds i true) (Cc K o.dst v) w):HL P N ops n (noPan Q) w0 (f+1) listed K w:=by
 intro inv hx a hK
 obtain⟨hs,hn,ht⟩:=Fo.spec hh
 simp only [AD]at hc
 have hin:i<n:=by have h2:=hc.1.1;simp [Nat.blt]at h2;omega
 have hr:i∈Region.ready .any ops listed:=by simpa using hc.2
 refine Ek.first hi hin hn (FX hs) ht (fun c a w h=>h.elim) f listed a w inv (Region.free_spec hi hc.1.2) hr ?_ hx (k (inv.set hr hin) hx _ (hK.put (EC.h hd)))
 exact .inl ⟨by simp [Region.wanted,hg],fun w' hw'=>h a hK w' hw'⟩
theorem HL.shrink(h:HL P N ops n Q w f listed K w):HL P N ops n Q w0 f listed K w:=by
 intro inv hx a hK
 exact Ek.mono (fun w2 h2=>AU.trans hx h2) _ _ _ _ (h inv (AU.refl w) a hK)
theorem HL.tail{l:List Oper}(hops:ops=l.toArray)(hseq:Region.seqB .any ops (l.drop n).length n listed=true)(hf:f=(l.drop n).length)(k:TL P N ops (noPan Q) (l.drop n) K w):HL P N ops n (noPan Q) w0 f listed K w:=by
 intro inv hx a hK
 rw [hf]
 exact Ek.seq (l.drop n) n listed a w (fun j=>by rw [hops,Bx];simp) (BN n) hseq (k a hK)
theorem WC.held{id:Nat}{l:List Oper}(n:Nat)(hm:P.follows .mixedOrders=true)
 (h:∀w',AU w w'->HL P N l.toArray n (noPan Q) w' l.length (Array.replicate l.length false) K w'):WC P N (.region id l.toArray true) Q K w:=by
 intro a hK
 have inv0:HeadInv .any l.toArray n (Array.replicate l.length false):=
  ⟨by simp,fun j oj _ hl=>(by rw [getD_replicate_false]at hl;cases hl),fun t _ ht=>getD_in (by simpa using ht) (getD_replicate_false _ _)⟩
 refine Code.wp_mono ?_ (wp_region_any hm (Ek.any _ _ _ _ (h w.drew (AU.drew w) (by simpa using inv0) (AU.refl _) a hK)))
 intro e a w hq
 cases e<;>first|exact hq|exact hq.elim
theorem TL.noPan{l:List Oper}(h:NX N Q .normal K w):TL P N ops (noPan Q) [] K w:=fun a hK=>h a hK
end
/-! ## More operations -/
section
variable {P:Program} {N:Nat} {α:Type} {c:EJ α} {w:World} {S:Nat -> Prop} {xs:List α} {v:Value} {o:Oper} {K:KL}
theorem Bj{x a}(ho:o.op= .nilCheck x)(hx:DW K x=some (.pointer (some a))):Gf P N K o w (.pointer (some a)):=by
 intro a hK w' _
 simp [execOp,ho,hK.ev hx]
def LQ{α:Type}(xs:List α)(lo hi:Int):Option (List α):=if 0<=lo∧lo<=hi∧hi<=xs.length then some ((xs.take hi.toNat).drop lo.toNat)else none
theorem GP{k:IntKind}{i:Int}{y:Nat}{code:BoundsCode}{w:World}(h0:0<=i)(h1:i<=y):(Instr.sliceBound (.int k i) y code).run P w= .ok i.toNat w:=by
 simp [Instr.sliceBound,asIntOf,h0,h1]
theorem UB{e:TypeId}{a:Option Addr}{cap:Nat}{lo hi:Int}(h1:xs.length<=cap∧(a=none->cap=0))(h3:cap<=9223372036854775807)
 (h4:0<xs.length->∃b off,a=some ⟨b,off,none⟩∧S b∧∀i x,xs[i]? =some x->∃us,c.rep w S x us∧Ab w b (off+i*c.n) us)
 (g0:0<=lo) (g1:lo<=hi) (g2:hi<=xs.length):
 AF c w S ((xs.take hi.toNat).drop lo.toNat) (.slice (if cap=lo.toNat then a else a.map (·.add (lo.toNat*c.n))) (hi.toNat-lo.toNat) (cap-lo.toNat)):=by
 have hl:((xs.take hi.toNat).drop lo.toNat).length=hi.toNat-lo.toNat:=by simp;omega
 refine⟨_,_,by rw [hl],⟨by rw [hl];omega,fun h=>?_⟩,by omega,fun hpos=>?_⟩
 ·split at h
  ·omega
  ·have:a=none:=by cases a<;>simp_all
   have:=h1.2 this;omega
 ·rw [hl]at hpos
  obtain⟨b,off,rfl,hb,h5⟩:=h4 (by omega)
  rw [BV (by omega)]
  refine⟨b,off+lo.toNat*c.n,by simp [EM],hb,fun i x hx=>?_⟩
  rw [Bx,Bq]at hx
  split at hx
  ·obtain⟨us,h6,h7⟩:=h5 _ _ hx
   refine⟨us,h6,?_⟩
   have e1:off+lo.toNat*c.n+i*c.n=off+(lo.toNat+i)*c.n:=by rw [CT];omega
   rw [e1];exact h7
  ·cases hx
theorem Qc{t x hi e k2 m2 zs}(ho:o.op= .slice t x none (some hi) none)(hu:P.underlying t=some (.slice e))(hc:CE P e=some c.n)(hx:DW K x=some v)(h2:DW K hi=some (.int k2 m2))
 (hs:AF c w S xs v) (hz:LQ xs 0 m2=some zs):YE P N K o w (fun u=>AF c w S zs u):=by
 obtain⟨a,cap,rfl,g1,g3,g4⟩:=hs
 unfold LQ at hz
 split at hz
 ·rename_i hb
  injection hz with hz;subst hz
  obtain⟨i,hi2,hsz⟩:=Ag.1 hc
  refine⟨_,fun a' hK w' he=>?_,UB (e:=e) g1 g3 g4 hb.1 hb.2.1 hb.2.2⟩
  have e1:(Instr.sliceBound (.int k2 m2) cap .sliceAcap).run P w'= .ok m2.toNat w':=GP (by omega) (by omega)
  simp [execOp,ho,hK.ev hx,hK.ev h2,Instr.sliceAt,Instr.slice,BZ hu,Instr.sliceBounds,e1,sizeOf,typeInfo,hi2,hsz]
 ·cases hz
theorem SV{t x lo e k1 m1 zs}(ho:o.op= .slice t x (some lo) none none)(hu:P.underlying t=some (.slice e))(hc:CE P e=some c.n)(hx:DW K x=some v)(h1:DW K lo=some (.int k1 m1))
 (hs:AF c w S xs v) (hz:LQ xs m1 xs.length=some zs):YE P N K o w (fun u=>AF c w S zs u):=by
 obtain⟨a,cap,rfl,g1,g3,g4⟩:=hs
 unfold LQ at hz
 split at hz
 ·rename_i hb
  injection hz with hz;subst hz
  obtain⟨i,hi2,hsz⟩:=Ag.1 hc
  refine⟨_,fun a' hK w' he=>?_,UB (e:=e) g1 g3 g4 hb.1 hb.2.1 hb.2.2⟩
  have e2:(Instr.sliceBound (.int k1 m1) xs.length .sliceB).run P w'= .ok m1.toNat w':=GP (by omega) (by omega)
  simp [execOp,ho,hK.ev hx,hK.ev h1,Instr.sliceAt,Instr.slice,BZ hu,Instr.sliceBounds,e2,sizeOf,typeInfo,hi2,hsz]
 ·cases hz
def TI(s:ByteArray)(i:Int):Option Int:=if 0<=i then(s[i.toNat]?).map fun b=>(b.toNat:Int)else none
theorem IA{t x i s k m b}(ho:o.op= .index t x i)(hu:P.underlying t=some .string)(hx:DW K x=some (.string s))(hi:DW K i=some (.int k m))(hb:TI s m=some b):Gf P N K o w (.int .u8 b):=by
 intro a hK w' _
 unfold TI at hb
 split at hb
 ·rename_i h0
  obtain⟨q,h1,rfl⟩:=Ag.1 hb
  simp [execOp,ho,hK.ev hx,hK.ev hi,Instr.index,asIntOf,BZ hu,h0,h1]
 ·cases hb
end
/-! ## Slices of the call's own whose elements lead into memory -/
abbrev SX(B hi:Nat)(v:Value):Nat->Prop:=fun k=>B<=k∧k<hi∧v.ownBlock≠some k
section
variable {α:Type} {c:EJ α} {w w':World} {B hi:Nat} {e:TypeId} {xs zs:List α} {v v':Value}
theorem AC.extN(h:AC c w B (SX B hi v) e xs v)(he:AU w w')(hle:hi<=w.heap.size):AC c w' B (SX B hi v) e xs v:=
 h.keep (fun g hg=>he.block g (h.blk g hg).2) (fun _ h=>h) (fun k h=>he.block k (by have:=h.2.1;omega))
theorem AC.updN{b:Nat}(h:AC c w B (SX B hi v) e xs v)(hu:JM b w w')(hne:∀g,v.ownBlock=some g->g≠b)(hb:b<B∨hi<=b:=by omega):AC c w' B (SX B hi v) e xs v:=
 h.keep (fun g hg=>hu.block g (hne g hg)) (fun _ h=>h) (fun k h=>hu.block k (by have:=h.1;have:=h.2.1;omega))
theorem AC.wideN{hi':Nat}(h:AC c w B (SX B hi v) e xs v)(hle:hi<=hi':=by omega):AC c w B (SX B hi' v) e xs v:=
 h.keep (fun _ _=>rfl) (fun k h=>⟨h.1,by have:=h.2.1;omega,h.2.2⟩) (fun _ _=>rfl)
theorem AC.slN{lo hi':Nat}(h:AC c w B (SX B hi v) e xs v)(h1:lo<=B:=by omega)(h2:w.heap.size<=hi':=by omega)(h3:hi<=hi':=by omega):AF c w (Iv lo hi') xs v:=
 h.sl (fun k h=>⟨by have:=h.1;omega,by have:=h.2.1;omega⟩) (fun k h4 h5=>⟨by omega,by omega⟩)
theorem Ah.below{lo:Nat}(h:Ah w w' v v')(hb:∀g,v.ownBlock=some g->lo<=g):Below lo w w'∨w.heap.size<lo:=by
 by_cases hl:lo<=w.heap.size
 ·exact .inl ⟨h.1.os,h.1.tape,h.1.output,h.1.size,fun k hk=>h.1.block k (by omega) (fun e=>by have:=hb k e.symm;omega)⟩
 ·exact .inr (by omega)
theorem Ah.low{lo:Nat}(h:Ah w w' v v')(hb:∀g,v.ownBlock=some g->lo<=g)(hl:lo<=w.heap.size):Below lo w w':=by
 rcases h.below hb with h|h
 ·exact h
 ·omega
theorem Ah.box{b:Nat}{us:List Value}{t:TypeId}(h:Ah w w' v v')(hb:BO w b us t)(hne:∀g,v.ownBlock=some g->g≠b):BO w' b us t:=by
 unfold BO;rw [h.1.block b hb.lt (fun e=>hne b e.symm rfl)];exact hb
theorem Ah.slr{lo hi:Nat}(h:Ah w w' v v'){ys:List α}{u:Value}(hs:AF c w (Iv lo hi) ys u)(hne:∀g,v.ownBlock=some g->g<lo∨hi<=g)(hle:hi<=w.heap.size:=by omega):AF c w' (Iv lo hi) ys u:=
 hs.mono (fun _ h=>h) (fun k hk=>h.1.block k (by have:=hk.2;omega) (fun e=>by have:=hne k e.symm;have:=hk.1;have:=hk.2;omega))
theorem Ah.bd{S:Nat->Prop}(h:Ah w w' v v')(ho:AC c w' B S e zs v'){lo hi:Nat}(hb:∀g,v.ownBlock=some g->lo<=g∧g<hi)(hl:lo<=w.heap.size)(hh:hi<=w'.heap.size):∀g,v'.ownBlock=some g->lo<=g∧g<w'.heap.size:=fun g hg=>by
 have h1:=(ho.blk g hg).2
 rcases h.2 g hg with h2|h2
 ·exact⟨(hb g h2).1,h1⟩
 ·exact⟨by omega,h1⟩
end
section
variable {P:Program} {N:Nat} {α:Type} {c:EJ α} {w:World} {B:Nat} {e:TypeId} {xs ys zs:List α} {v:Value} {o:Oper} {K:KL}
theorem BA[Es c]{t x y u zc sz by'}{S2:Nat->Prop}(ho:o.op= .call { callee:=.builtin .append,args:=#[x,y],argTypes:=#[t,t] })(hu:P.underlying t=some (.slice e))(hi:Ev P e=some (zc,sz,by'))(hsz:sz=c.n)(hzc:zc.length=sz)
 (hpos:Nat.blt 0 c.n=true) (hx:DW K x=some v) (hy:DW K y=some u) (hs:AC c w B (Iv 0 0) e xs v) (hb:B<=w.heap.size) (hr:AF c w S2 ys u) (ha:De xs ys by'=some zs):
 IP P N K o w (fun v' w'=>AC c w' B (Iv 0 0) e zs v'∧Ah w w' v v'):=
 Ou (S':=Iv 0 0) ho hu hi hsz hzc hpos hx hy hs hb hr ha (fun _ h=>h) (fun _ _ h=>Es.any h) (fun k h=>absurd h.2 (AV k))
theorem Mk{t x y u zc sz by' hi lo2 hi2}(ho:o.op= .call { callee:=.builtin .append,args:=#[x,y],argTypes:=#[t,t] })(hu:P.underlying t=some (.slice e))(hi1:Ev P e=some (zc,sz,by'))(hsz:sz=c.n)(hzc:zc.length=sz)
 (hpos:Nat.blt 0 c.n=true) (hx:DW K x=some v) (hy:DW K y=some u) (hs:AC c w B (SX B hi v) e xs v) (hb:B<=w.heap.size) (hle:hi<=w.heap.size) (hr:AF c w (Iv lo2 hi2) ys u)
 (h1:B<=lo2) (h2:hi2<=w.heap.size) (hne:∀g,v.ownBlock=some g->g<lo2∨hi2<=g) (ha:De xs ys by'=some zs):
 IP P N K o w (fun v' w'=>AC c w' B (SX B w.heap.size v') e zs v'∧Ah w w' v v'):=by
 intro a hK Kt Q hk
 refine Ou (S':=SX B w.heap.size v) ho hu hi1 hsz hzc hpos hx hy hs hb hr ha (fun k h=>⟨h.1,by have:=h.2.1;omega,h.2.2⟩)
  (fun _ _ h=>c.mono h (fun k hk=>⟨by have:=hk.1;omega,by have:=hk.2;omega,fun e=>by have:=hne k e;have:=hk.1;have:=hk.2;omega⟩) (fun _ _=>rfl)) (fun k h=>⟨h.2.1,h.2.2⟩) a hK Kt Q ?_
 rintro v' w' ⟨h3,h4⟩
 refine hk v' w' ⟨h3.keep (fun _ _=>rfl) (fun k h=>⟨h.1,h.2.1,fun e=>?_⟩) (fun _ _=>rfl),h4⟩
 rcases h4.2 k e with h5|h5
 ·exact h.2.2 h5
 ·have:=h.2.1;omega
end
end Go.Eng
namespace Go.Eng
open Go Go.RowKit
section
variable {α β:Type} {c:EJ α} {d:EJ β} {w w':World} {B hi:Nat} {e e2:TypeId} {xs zs:List α} {ys:List β} {v v' u:Value}
theorem Ah.ownF[Es d](h:Ah w w' v v')(ho:AC d w B (Iv 0 0) e2 ys u)(hne:∀g q,v.ownBlock=some g->u.ownBlock=some q->g≠q):AC d w' B (Iv 0 0) e2 ys u:=
 ho.keep (fun q hq=>h.1.block q (ho.blk q hq).2 (fun e=>hne q q e.symm hq rfl)) (fun _ h=>h) (fun k h=>absurd h.2 (AV k))
theorem Ah.ownN(h:Ah w w' v v')(ho:AC d w B (SX B hi u) e2 ys u)(hne:∀g q,v.ownBlock=some g->u.ownBlock=some q->g≠q)(hle:hi<=w.heap.size)(hs:∀g,v.ownBlock=some g->g<B∨hi<=g):AC d w' B (SX B hi u) e2 ys u:=
 ho.keep (fun q hq=>h.1.block q (ho.blk q hq).2 (fun e=>hne q q e.symm hq rfl)) (fun _ h=>h) (fun k hk=>h.1.block k (by have:=hk.2.1;omega) (fun e=>by have:=hs k e.symm;have:=hk.1;have:=hk.2.1;omega))
theorem Ah.sepP{p:Nat->Prop}(h:Ah w w' v v')(h1:∀g,v.ownBlock=some g->p g)(h2:∀g,w.heap.size<=g->p g):∀g,v'.ownBlock=some g->p g:=fun g hg=>(h.2 g hg).elim (h1 g) (h2 g)
theorem BK{g k k2:Nat}{u:Value}(h:u= .slice (some ⟨g,0,none⟩) k k2):∀q,u.ownBlock=some q->g<=q∧q<g+1:=by
 subst h;intro q hq
 have h2:g=q:=AM hq
 omega
theorem Hp{lo hi:Nat}:∀q,(Value.slice none 0 0).ownBlock=some q->lo<=q∧q<hi:=fun q h=>by cases h
theorem AC.litN{g k k2 lo hi2:Nat}(h:AC c w g (Iv lo hi2) e xs u)(hu:u= .slice (some ⟨g,0,none⟩) k k2)(h1:lo<=g)(h2:hi2<=g):AC c w lo (SX lo g u) e xs u:=
 (h.base h1).keep (fun _ _=>rfl) (fun q hq=>⟨hq.1,by have:=hq.2;omega,fun e=>by
  subst hu
  have h3:g=q:=AM e
  have:=hq.2;omega⟩) (fun _ _=>rfl)
end
section
variable {P:Program} {N:Nat} {α:Type} {c:EJ α} {w:World} {B:Nat} {S:Nat -> Prop} {e:TypeId} {xs:List α} {v:Value} {o:Oper} {K:KL}
theorem Ee{t x y b off u cur e}(ho:o.op= .store t x y)(hx:DW K x=some (.pointer (some ⟨b,off,none⟩)))(hy:DW K y=some u)(hb:BO w b cur e)(hn:CE P t=some 1)(hcl:u.cells= #[u])(h1:u.oneCell'=true)
 (hfit:Nat.ble (off+1) cur.length=true):IP P N K o w (fun _ w'=>JM b w w'∧BO w' b (cur.take off++[u]++cur.drop (off+1)) e):=by
 have:=Sn (N:=N) ho hx hy hb (by rw [hcl];exact hn) (by rw [hcl];simp [h1]) (by rw [hcl];exact hfit)
 rw [hcl]at this;exact this
theorem Nf{t x y u g m us us' y0 y'}(j off:Nat)(ho:o.op= .store t x y)(hx:DW K x=some (.pointer (some ⟨g,off,none⟩)))(hy:DW K y=some u)(hs:AC c w B S e xs v)
 (hg:v.ownBlock=some g) (hm:AL xs m=some y0) (hoff:off=0+m.toNat*c.n+j) (hn:CE P t=some 1) (hcu:u.cells= #[u]) (h1:u.oneCell'=true) (hrep:c.rep w S y0 us)
 (hcl:Ab w g (0+m.toNat*c.n) us) (hus:us'=Jc us j [u]) (hfit:Nat.ble (j+1) us.length=true) (hrep':c.rep w S y' us') (hS:∀k,S k->k≠g):
 IP P N K o w (fun _ w'=>JM g w w'∧AC c w' B S e (xs.set m.toNat y') v):=
 Be j off ho hx hy hs hg hm hoff (by rw [hcu];exact hn) (by rw [hcu];simp [h1]) hrep hcl (by rw [hcu];exact hus) (by rw [hcu];exact hfit) hrep' hS
theorem AC.baseN{B' hi:Nat}(h:AC c w B (SX B hi v) e xs v)(hB:B'<=B:=by omega):AC c w B' (SX B' hi v) e xs v:=
 (h.base hB).keep (fun _ _=>rfl) (fun k hk=>⟨by have:=hk.1;omega,hk.2⟩) (fun _ _=>rfl)
end
theorem AB{x:Value}{xs:List Value}(h:x.oneCell'=true)(h2:xs.all Value.oneCell'=true):(x::xs).all Value.oneCell'=true:=by simp [Fv,h,h2]
theorem BC:([]:List Value).all Value.oneCell'=true:=rfl
def JV:Nat->List (List Value)->List (Nat×List Value)
 |_,[]=>[]
 |k,us::uss=>(k,us)::JV (k+1) uss
theorem Rz{n len:Nat}:∀(uss:List (List Value)) (k:Nat) (pre post:List Value),pre.length=k*n->post.length=uss.length*n->(∀us∈uss,us.length=n)->len=k+uss.length->
 Mw ((List.range len).map fun k=>(k*n,n)) (pre++post) (JV k uss)=some (pre++DD uss)
 |[],k,pre,post,hp,hq,ha,hl=>by
  have:post=[]:=BX (by simpa using hq)
  subst this;simp [JV,Mw,DD]
 |us::uss,k,pre,post,hp,hq,ha,hl=>by
  have hus:us.length=n:=ha us (Bg ..)
  have hk:((List.range len).map fun k=>(k*n,n))[k]? =some (k*n,n):=by
   have:k<len:=by rw [hl,CM];omega
   simp [this]
  have hq':post.length=uss.length*n+n:=by rw [hq,CM,CT];omega
  have e:List.take (k*n) (pre++post)++us++List.drop (k*n+us.length) (pre++post)=(pre++us)++post.drop n:=by
   rw [←hp,List.take_left,List.drop_append,hus,EL (by omega)]
   simp
  have:=Rz (len:=len) uss (k+1) (pre++us) (post.drop n) (by rw [Bk,hp,hus,CT];omega) (by rw [Er,hq'];omega) (fun x hx=>ha x (Cd _ hx)) (by rw [hl,CM];omega)
  have hb:(Nat.beq us.length n&&Nat.ble (k*n+us.length) (pre++post).length)=true:=by
   rw [AD]
   exact⟨by rw [hus];exact Nat.beq_refl n,Nat.ble_eq_true_of_le (by rw [Bk,hp,hq',hus];omega)⟩
  rw [JV,Mw]
  simp only [hk]
  rw [hb,e,BE rfl,this]
  simp [DD]
theorem Nq{n len:Nat}{zc:Array Value}{uss:List (Nat×List Value)}(uls:List (List Value))(h1:uss=JV 0 uls)(h2:uls.all (fun us=>Nat.beq us.length n)=true)(h3:uls.length=len):
 Mw ((List.range len).map fun k=>(k*n,n)) (madeCells zc (len*n)).toList uss=some (DD uls):=by
 subst h1
 have:=Rz (n:=n) (len:=len) uls 0 [] (madeCells zc (len*n)).toList (by simp) (by rw [EG,GK,h3]) (fun us hus=>Az (CG.1 h2 us hus)) (by omega)
 simpa using this
section
variable {P:Program} {N:Nat} {ops:Array Oper} {Q:Exit -> Act -> World -> Prop} {n:Nat} {K:KL} {w w0:World} {f:Nat} {listed:Array Bool}
def HB(P:Program)(N:Nat)(ops:Array Oper)(n:Nat)(Q:Exit->Act->World->Prop)(w0:World)(f:Nat)(listed:Array Bool)(K:KL)(w:World)(j:Nat):Prop:=
 HeadInv .any ops n listed->AU w0 w->∀a,Kn N K a->wpOp P ops Q j (fun a' w'=>(j<n->AU w0 w')∧Ek P .any ops n Q (fun w'=>AU w0 w') f (listed.setIfInBounds j true) a' w') a w
theorem HL.many{js:List Nat}(hr:Region.ready .any ops listed=js)(hne:js.isEmpty=false)(h:∀j∈js,HB P N ops n Q w0 f listed K w j):HL P N ops n Q w0 (f+1) listed K w:=by
 intro inv hx a hK
 refine⟨fun h0=>(by rw [hr]at h0;subst h0;cases hne),fun j hj=>?_⟩
 rw [hr]at hj
 exact h j hj inv hx a hK
theorem HB.eff{o:Oper}{R:Value->World->Prop}(i:Nat)(hi:ops[i]? =some o)(hin:Nat.blt i n=true)(hr:(Region.ready .any ops listed).contains i=true)(hg:o.guard=none)(hd:EC N o.dst=true)
 (h:IP P N K o w R) (k:∀v w',R v w'->AU w0 w'∧HL P N ops n (noPan Q) w0 f (listed.setIfInBounds i true) (Cc K o.dst v) w'):HB P N ops n (noPan Q) w0 f listed K w i:=by
 intro inv hx a hK
 have hin':i<n:=by have h2:=hin;simp [Nat.blt]at h2;omega
 have hri:i∈Region.ready .any ops listed:=by simpa using hr
 unfold wpOp
 simp only [hi]
 rw [BE (by simp [Region.wanted,hg])]
 refine .inl (h a hK _ _ fun u w' hR=>?_)
 obtain⟨h1,h2⟩:=k u w' hR
 exact⟨fun _=>h1,h2 (inv.set hri hin') h1 _ (hK.put (EC.h hd))⟩
theorem Qv{p:Nat->Prop}{i j:Nat}(h1:p i)(h2:p j):∀k∈[i,j],p k:=by
 intro k hk
 rcases CS.1 hk with rfl|hk
 ·exact h1
 ·obtain rfl:=As.1 hk;exact h2
theorem WC.join{c:Code}(R:Act->World->Prop)(h1:WC P N c (fun e a w=>e= .normal∧R a w) K w)(h2:∀a w',R a w'->Q .normal a w'):WC P N c Q K w:=by
 intro a hK
 refine Code.wp_mono ?_ (h1 a hK)
 rintro e a w ⟨rfl,h⟩
 exact h2 a w h
end
theorem AC.slb{α:Type}{c:EJ α}{w:World}{B lo hi:Nat}{S:Nat->Prop}{e:TypeId}{xs:List α}{v:Value}[Es c](h:AC c w B S e xs v)(hb:∀g,v.ownBlock=some g->lo<=g∧g<hi):AF c w (Iv lo hi) xs v:=by
 obtain⟨cs,h0,h3⟩:=h
 have h1:=h0
 obtain⟨hl,⟨rfl,hn⟩|⟨g,cap,cur,rfl,_,hh,h5,h6,h7,h8⟩⟩:=h1
 ·have:xs=[]:=BX hn
  subst this;exact AF.nil _ _ _
 ·refine⟨some ⟨g,0,none⟩,cap,rfl,⟨h5,fun h=>by cases h⟩,by simpa [maxLen] using h6,fun hpos=>⟨g,0,rfl,hb g rfl,fun i x hx=>⟨_,Es.any (h3 i x hx),fun j u hu=>?_⟩⟩⟩
  have hjn:j<c.n:=by
   have:=(AK.1 hu).1
   simp [Ba]at this;omega
  rw [CZ hjn]at hu
  have:=h0.cells (g:=g) rfl _ _ hu
  rw [EM]at this
  rw [show 0+i*c.n+j=0+(i*c.n+j) by omega];exact⟨this,by simp [World.frozen?,hh]⟩
def QD{α:Type}(c:EJ α)(w:World)(S:Nat->Prop):List α->List (List Value)->Prop
 |[],[]=>True
 |x::xs,us::uss=>c.rep w S x us∧QD c w S xs uss
 |_,_=>False
theorem QD.get{α:Type}{c:EJ α}{w:World}{S:Nat->Prop}:∀{xs:List α} {uss:List (List Value)},QD c w S xs uss->(∀us∈uss,us.length=c.n)∧xs.length=uss.length∧∀(i:Nat) (x:α),xs[i]? =some x->∃us:List Value,uss[i]? =some us∧c.rep w S x us
 |[],[],_=>⟨by simp,rfl,fun i x h=>by simp at h⟩
 |x::xs,us::uss,⟨h1,h2⟩=>by
  obtain⟨a,b,k⟩:=QD.get h2
  refine⟨fun q hq=>?_,by simp [b],fun i y hy=>?_⟩
  ·rcases CS.1 hq with rfl|hq
   ·exact c.len h1
   ·exact a q hq
  ·cases i with
   |zero=>simp at hy;subst hy;exact⟨us,rfl,h1⟩
   |succ i=>simpa using k i y (by simpa using hy)
theorem QD.elem{α:Type}{c:EJ α}{w:World}{S:Nat->Prop}{xs:List α}{uss:List (List Value)}(h:QD c w S xs uss):∀i x,xs[i]? =some x->c.rep w S x (Ba (DD uss) c.n i):=by
 intro i x hx
 obtain⟨a,b,k⟩:=QD.get h
 obtain⟨us,h1,h2⟩:=k i x hx
 rw [OJ a h1];exact h2
theorem Qp{α:Type}{c:EJ α}{w:World}{S:Nat->Prop}{xs:List α}{uss:List (List Value)}{out:List Value}(h:QD c w S xs uss)(ho:out=DD uss):∀i x,xs[i]? =some x->c.rep w S x (Ba out c.n i):=by
 subst ho;exact h.elem
end Go.Eng
namespace Go.Eng
open Go Go.RowKit Go.ChangeShapes Go.WideShapes Go.ChangeAt
/-! ## Arguments, as they are read -/
def Rd{α:Type}(P:Program)(t:TypeId)(c:EJ α)(R:α->Prop):Prop:=
 ∀(H:Type) (enc:TypeId×Value->H) (w:World) (base:Nat) (spare:Nat->Bool) (held:Bool) (fuel:Nat) (cs:List Value) (x:DataW H×List MemPlace),
  DataW.trod enc P w base spare held fuel t cs=some x->w.noneFrozen x.2->∃y,c.rep w (Iv 0 w.heap.size) y cs∧R y
section
variable {P:Program} {t e:TypeId} {α β:Type} {c:EJ α} {d:EJ β} {R:α -> Prop} {R':β -> Prop}
theorem Rd.int{k:IntKind}(hu:P.underlying t=some (.int k)):Rd P t (Bo k) (fun i=>k.min<=i∧i<=k.max):=fun H enc w b sp hd f cs x hx _=>by
 obtain⟨n,rfl,rfl,hw⟩:=DataW.trod_int hu hx
 simp only [Lit.wf,AD,AP]at hw
 exact⟨n,rfl,hw⟩
theorem WV{p:Nat->α->Prop}:∀(n:Nat),(∀i,i<n->∃y,p i y)->∃ys:List α,ys.length=n∧∀i y,ys[i]? =some y->p i y
 |0,_=>⟨[],rfl,fun i y h=>by simp at h⟩
 |n+1,h=>by
  obtain⟨ys,hl,hy⟩:=WV n (fun i hi=>h i (by omega))
  obtain⟨y,hn⟩:=h n (by omega)
  refine⟨ys++[y],by simp [hl],fun i z hz=>?_⟩
  by_cases hi:i<n
  ·rw [Ao (by omega)]at hz;exact hy i z hz
  ·rw [Ap (by omega),hl]at hz
   by_cases h0:i-n=0
   ·rw [h0]at hz
    simp at hz
    obtain rfl:i=n:=by omega
    subst hz;exact hn
   ·have:=(AK.1 hz).1
    simp at this;omega
theorem Rd.slice(hu:P.underlying t=some (.slice e))(hc:P.cellsOf e=c.n)(hp:Nat.blt 0 c.n=true)(h:Rd P e c R):Rd P t (Hh c) (fun xs=>xs.length<=9223372036854775807∧∀x∈xs,R x):=fun H enc w b sp hd f cs x hx hz=>by
 have hp:0<c.n:=by have h:=hp;simp [Nat.blt]at h;omega
 rcases Go.Deep.open_slice hu hx with ⟨rfl,rfl⟩|⟨a,len,cap,m,n,D,Pl,rfl,hb,hl,hm,hmm,rfl,hel⟩
 ·exact⟨[],⟨_,rfl,AF.nil _ _ _⟩,by simp,by simp⟩
 have hle:len<=m:=by rw [hmm];split<;>omega
 obtain⟨ys,hyl,hy⟩:=WV (α:=α) (p:=fun i y=>∃cs',w.cells? b (a.add (i*P.cellsOf e)) (P.cellsOf e)=some cs'∧c.rep w (Iv 0 w.heap.size) y cs'∧R y) len (fun i hi=>by
  obtain⟨cs',h1,h2⟩:=hel i (by omega)
  obtain⟨y,h3,h4⟩:=h H enc w b sp hd n cs' _ h2 (fun b' o' hm=>hz b' o' (List.mem_append_right _ (List.mem_flatMap.2 ⟨i,GL.2 (by omega),hm⟩)))
  exact⟨y,cs',h1,h3,h4⟩)
 refine⟨ys,⟨_,rfl,some a,cap,by rw [hyl],⟨by omega,fun h=>by cases h⟩,by unfold maxLen at hm;omega,fun hpos=>?_⟩,by unfold maxLen at hm;omega,fun x hx=>?_⟩
 ·rw [hc]at hy
  have h0:∃cs',w.cells? b (a.add (0*c.n)) c.n=some cs':=by
   obtain⟨y,hy0⟩:∃y,ys[0]? =some y:=⟨_,AH hpos⟩
   obtain⟨cs',h1,_⟩:=hy 0 y hy0
   exact⟨cs',h1⟩
  obtain⟨cs',h1⟩:=h0
  obtain⟨_,h2,h3⟩:=World.cells?_some h1
  have h4:=h3 0 hp
  have e0:(a.add (0*c.n)).add 0=a:=by simp [Addr.add]
  rw [e0,AH (by omega)]at h4
  obtain⟨blk,off,spot⟩:=a
  have hblk:blk<w.heap.size∧spot=none:=by
   unfold World.cell? at h4
   split at h4
   ·rename_i h5
    refine⟨(CA.1 h5).1,?_⟩
    cases spot with
    |none=>rfl
    |some s=>simp at h4
   ·cases h4
  obtain⟨hblk,rfl⟩:=hblk
  refine⟨blk,off,rfl,⟨Nat.zero_le _,hblk⟩,fun i x hx=>?_⟩
  obtain⟨cs',h1,h2,_⟩:=hy i x hx
  refine⟨cs',h2,fun j u hu=>?_⟩
  obtain⟨_,h3,h4⟩:=World.cells?_some h1
  have hj:=(AK.1 hu).1
  have:=h4 j (by omega)
  rw [EM,EM]at this
  refine⟨by rw [this,hu],hz _ _ (Ei _ ?_)⟩
  unfold MemPlace.row
  refine Dm.2 ⟨i*c.n+j,GL.2 ?_,by simp [Nat.add_assoc]⟩
  have hi2:i<m:=by have:=(AK.1 hx).1;omega
  have:(i+1)*c.n<=m*c.n:=Bh _ hi2
  rw [CT]at this
  rw [hc];omega
 ·obtain⟨i,hi⟩:=List.getElem?_of_mem hx
  obtain⟨_,_,_,h3⟩:=hy i x hi
  exact h3
def RdF{α:Type}(P:Program)(fs:List Field)(off:Nat)(c:EJ α)(R:α->Prop):Prop:=
 ∀(H:Type) (enc:TypeId×Value->H) (w:World) (base:Nat) (spare:Nat->Bool) (held:Bool) (fuel:Nat) (cs:List Value),
  (∀f∈fs,∃x,DataW.trod enc P w base spare held fuel f.type ((cs.drop f.offset).take (P.cellsOf f.type))=some x∧w.noneFrozen x.2)->∃y,c.rep w (Iv 0 w.heap.size) y ((cs.drop off).take c.n)∧R y
theorem RdF.one{f:Field}{off:Nat}(h:Rd P f.type c R)(ho:f.offset=off)(hc:P.cellsOf f.type=c.n):RdF P [f] off c R:=fun H enc w b sp hd fu cs hx=>by
 obtain⟨x,hx,hz⟩:=hx f (As.2 rfl)
 obtain⟨y,h1,h2⟩:=h H enc w b sp hd fu _ x hx hz
 rw [ho,hc]at h1
 exact⟨y,h1,h2⟩
end
/-! ## A statement whose answer is true -/
section
variable {H:Type} {enc:TypeId × Value -> H} {P:Program}
theorem OM(hl:laidOutB P=true){W W':World}(hb:Below W.heap.size W W'):∀{ts:List TypeId} {vs:List Value} {ds:List (DataW H)} {ps:List MemPlace},(∀t∈ts,P.readableRec t=true∧t<P.types.size)->
 DataW.TrodAll enc P W 0 (fun _=>true) true ts vs ds ps->(∀x∈ps,x.block<W.heap.size)->DataW.TrodAll enc P W' 0 (fun b=>decide (b<W.heap.size)) true ts vs ds ps
 |[],[],[],ps,_,h,_=>h
 |t::ts,v::vs,d::ds,ps,hr,h,hlt=>by
  obtain⟨p,q,h1,h2,rfl⟩:=h
  obtain⟨h3,h4⟩:=hr t (Bg ..)
  exact⟨p,q,Below.trod hl h3 h4 h1 hb (fun x hx=>hlt x (Ei _ hx)),OM hl hb (fun t ht=>hr t (Cd _ ht)) h2 (fun x hx=>hlt x (List.mem_append_right _ hx)),rfl⟩
theorem QW{w:World}{base:Nat}{sp:Nat->Bool}{hd:Bool}:∀{ts:List TypeId} {vs:List Value} {ds:List (DataW H)} {ps:List MemPlace},DataW.TrodAll enc P w base sp hd ts vs ds ps->ds.length=ts.length
 |[],[],[],_,_=>rfl
 |t::ts,v::vs,d::ds,ps,⟨p,q,_,h,_⟩=>by simp [QW h]
end
end Go.Eng
namespace Go.Eng
open Go Go.RowKit
/-! ## Ui laws on what the walks compute -/
theorem BD{x:Int}(h1:-9223372036854775808<=x)(h2:x<=9223372036854775807):IntKind.wrap IntKind.i64 x=x:=by
 simp [IntKind.wrap,IntKind.bits,IntKind.signed]
 split<;>omega
theorem IK{α:Type}(xs:List α)(i:Nat):AL xs (i:Int)=xs[i]?:=by simp [AL]
theorem HR{α:Type}{xs:List α}{i:Int}(h0:0<=i)(h1:i<xs.length):∃x,AL xs i=some x∧x∈xs:=by
 obtain⟨n,rfl⟩:=Ax h0
 have hn:n<xs.length:=by omega
 exact⟨xs[n],by rw [IK,AH hn],AI hn⟩
theorem IH{n b:Nat}(h:n<=1048576)(hb:b<=268435456):Qw (n:Int) b=some n:=by
 unfold Qw
 have h2:n*b<=1048576*268435456:=EQ h hb
 have h3:(n:Int)*(b:Int)<=281474976710656:=by
  have:((n*b:Nat):Int)<=281474976710656:=by omega
  simpa using this
 rw [BE ⟨by omega,h3,by omega⟩]
 simp
end Go.Eng
namespace Go.Eng
open Go Go.RowKit
/-! ## Calls that write what they are handed -/
def pB(b:Nat):Nat->Prop:=fun k=>k=b
def pO(v:Value):Nat->Prop:=fun k=>v.ownBlock=some k
def dK(p q:Nat->Prop):Nat->Prop:=fun k=>p k∨q k
theorem AY{b:Nat}{Q:Nat->Prop}(h:Q b:=by omega):∀k,pB b k->Q k:=fun k e=>by have e:k=b:=e;rw [e];exact h
theorem Kh{v:Value}{Q:Nat->Prop}(h:∀g,v.ownBlock=some g->Q g):∀k,pO v k->Q k:=h
theorem Np{p q:Nat->Prop}{Q:Nat->Prop}(h1:∀k,p k->Q k)(h2:∀k,q k->Q k):∀k,dK p q k->Q k:=fun k h=>h.elim (h1 k) (h2 k)
structure BH(p:Nat->Prop)(w w':World):Prop where
 os:w'.os=w.os
 tape:w'.tape=w.tape
 output:w'.output=w.output
 size:w.heap.size<=w'.heap.size
 block:∀k,k<w.heap.size->¬p k->w'.heap[k]? =w.heap[k]?
section
variable {p q:Nat -> Prop} {w a c:World}
theorem BH.refl(p:Nat->Prop)(w:World):BH p w w:=⟨rfl,rfl,rfl,BN _,fun _ _ _=>rfl⟩
theorem BH.ext(h:BH p w a)(he:AU a c):BH p w c:=
 ⟨he.os.trans h.os,he.tape.trans h.tape,he.output.trans h.output,Ar h.size he.size,fun k hk hp=>(he.block k (Ds hk h.size)).trans (h.block k hk hp)⟩
theorem BH.upd{b:Nat}(h:BH p w a)(hu:JM b a c)(hb:p b∨w.heap.size<=b):BH p w c:=
 ⟨hu.os.trans h.os,hu.tape.trans h.tape,hu.output.trans h.output,by rw [hu.size];exact h.size,fun k hk hp=>(hu.block k (fun e=>by subst e;exact hb.elim hp (fun h=>by omega))).trans (h.block k hk hp)⟩
theorem BH.grow{v v':Value}(h:BH p w a)(hg:Ah a c v v')(hb:∀g,v.ownBlock=some g->p g∨w.heap.size<=g):BH p w c:=
 ⟨hg.1.os.trans h.os,hg.1.tape.trans h.tape,hg.1.output.trans h.output,Ar h.size hg.1.size,fun k hk hp=>(hg.1.block k (Ds hk h.size) (fun e=>(hb k e.symm).elim hp (fun h=>by omega))).trans (h.block k hk hp)⟩
theorem BH.but(h:BH p w a)(hq:BH q a c)(hb:∀k,q k->p k∨w.heap.size<=k):BH p w c:=
 ⟨hq.os.trans h.os,hq.tape.trans h.tape,hq.output.trans h.output,Ar h.size hq.size,fun k hk hp=>(hq.block k (Ds hk h.size) (fun e=>(hb k e).elim hp (fun h=>by omega))).trans (h.block k hk hp)⟩
theorem BH.below{lo:Nat}(h:BH p w a)(hp:∀k,p k->lo<=k)(hl:lo<=w.heap.size):Below lo w a:=
 ⟨h.os,h.tape,h.output,h.size,fun k hk=>h.block k (by omega) (fun e=>by have:=hp k e;omega)⟩
theorem BO.but{b:Nat}{us:List Value}{t:TypeId}(hb:BO w b us t)(h:BH p w a)(hne:∀k,p k->k≠b):BO a b us t:=by
 have h1:=h.block b hb.lt (fun e=>hne b e rfl)
 unfold BO at hb ⊢;rw [h1,hb]
theorem AF.but{α:Type}{d:EJ α}{lo hi:Nat}{xs:List α}{v:Value}(hs:AF d w (Iv lo hi) xs v)(h:BH p w a)(hne:∀k,p k->k<lo∨hi<=k)(hle:hi<=w.heap.size):AF d a (Iv lo hi) xs v:=
 hs.mono (fun _ h=>h) (fun k hk=>h.block k (by have:=hk.2;omega) (fun e=>by have:=hne k e;have:=hk.1;have:=hk.2;omega))
theorem AC.butF{α:Type}{d:EJ α}[Es d]{B:Nat}{e:TypeId}{xs:List α}{v:Value}(ho:AC d w B (Iv 0 0) e xs v)(h:BH p w a)(hne:∀k,p k->∀g,v.ownBlock=some g->k≠g):AC d a B (Iv 0 0) e xs v:=
 ho.keep (fun g hg=>h.block g (ho.blk g hg).2 (fun e=>hne g e g hg rfl)) (fun _ h=>h) (fun k h=>absurd h.2 (AV k))
theorem AC.butN{α:Type}{d:EJ α}{B hi:Nat}{e:TypeId}{xs:List α}{v:Value}(ho:AC d w B (SX B hi v) e xs v)(h:BH p w a)(hne:∀k,p k->∀g,v.ownBlock=some g->k≠g)(hle:hi<=w.heap.size)(hs:∀k,p k->k<B∨hi<=k):AC d a B (SX B hi v) e xs v:=
 ho.keep (fun g hg=>h.block g (ho.blk g hg).2 (fun e=>hne g e g hg rfl)) (fun _ h=>h) (fun k hk=>h.block k (by have:=hk.2.1;omega) (fun e=>by have:=hs k e;have:=hk.1;have:=hk.2.1;omega))
end
section
variable {P:Program} {N:Nat} {o:Oper} {K:KL} {w:World}
theorem Cl{i:Nat}{v:Value}{us:List Value}{ps:List (Nat×Value)}{uss:List (Nat×List Value)}(h:v.cells.toList=us)(t:ps.map (fun p=>(p.1,p.2.cells.toList))=uss):((i,v)::ps).map (fun p=>(p.1,p.2.cells.toList))=(i,us)::uss:=by
 rw [Eh,t,h]
theorem AF.cl{α:Type}{c:EJ α}{w:World}{S:Nat->Prop}{xs:List α}{v:Value}(h:AF c w S xs v):v.cells.toList=[v]:=by rw [AF.cells h]
/-! ## Functions as values, shifts, bits -/
theorem HQ{f first captured cs}(ho:o.op= .makeFunc (.func f) first captured)(h1:RE K first.toList=some [])(h2:RE K captured.toList=some cs):Gf P N K o w (.func (.func f) #[] cs.toArray):=by
 intro a hK w' _
 have e1:first.map a.eval= #[]:=by
  have:=hK.evs h1
  apply Array.ext'
  simpa using this
 have e2:captured.map a.eval=cs.toArray:=by
  have:=hK.evs h2
  apply Array.ext'
  simpa using this
 simp [execOp,ho,Instr.makeFunc,e1,e2]
theorem Gx{x f args tys vs cs}{R:Value->World->Prop}(ho:o.op= .call { callee:=.value x,args:=args,argTypes:=tys })(hf:BQ P f=true)(hx:DW K x=some (.func (.func f) #[] cs))
 (ha:RE K args.toList=some vs) (hc:Calls P f (vs++cs.toList).toArray w (Fu R)):IP P N K o w R:=by
 intro a hK Kt Q hk
 have he:args.map a.eval=vs.toArray:=by
  have:=hK.evs ha
  apply Array.ext'
  simpa using this
 have hr:(execOp a.eval o).run P w= .ok (.enter f (vs++cs.toList).toArray) w:=by
  have e:vs.toArray++cs=(vs++cs.toList).toArray:=by simp
  simp [execOp,ho,resolve,hK.ev hx,Deferred.ofValue,invoke,he,e,RZ hf]
 unfold Oper.wp
 rw [hr]
 exact hc.mono fun e w' ⟨v,he,hR⟩=>by subst he;exact hk _ _ hR
def Nz(k:IntKind)(m n:Int):Int:=m.fdiv (2^(min n.toNat k.bits))
def Of(k:IntKind)(m n:Int):Int:=k.wrap (m*2^(min n.toNat k.bits))
def cB(k:IntKind)(m n:Int):Int:=k.wrap (BitVec.ofInt k.bits m&&&BitVec.ofInt k.bits n).toNat
theorem Wq{t x y u k k2 m n}(ho:o.op= .binOp .shr t x y u)(hx:DW K x=some (.int k m))(hy:DW K y=some (.int k2 n))(h0:¬n<0):Gf P N K o w (.int k (Nz k m n)):=by
 intro a hK w' _
 simp [execOp,ho,hK.ev hx,hK.ev hy,eqGuard,binOp,Op.shift,h0,Nz]
theorem TE{t x y u k k2 m n}(ho:o.op= .binOp .shl t x y u)(hx:DW K x=some (.int k m))(hy:DW K y=some (.int k2 n))(h0:¬n<0):Gf P N K o w (.int k (Of k m n)):=by
 intro a hK w' _
 simp [execOp,ho,hK.ev hx,hK.ev hy,eqGuard,binOp,Op.shift,h0,Of]
theorem fD{t x y u k m n}(ho:o.op= .binOp .and t x y u)(hx:DW K x=some (.int k m))(hy:DW K y=some (.int k n)):Gf P N K o w (.int k (cB k m n)):=by
 intro a hK w' _
 simp [execOp,ho,hK.ev hx,hK.ev hy,eqGuard,binOp,Op.intBits,cB]
theorem oF{b:Int}{α:Type}{y:Option α}{r:α}(h:(bif decide (b<0)then none else y)=some r):¬b<0∧y=some r:=by
 by_cases hb:b<0
 ·simp [hb]at h
 ·exact⟨hb,by simpa [hb] using h⟩
end
end Go.Eng
namespace Go.Eng
open Go Go.RowKit
section
variable {P:Program} {N:Nat} {o:Oper} {K:KL} {w:World}
theorem UA{t x y u e}(ho:o.op= .binOp .eql t x y u)(hu:P.underlying t=some (.slice e))(hx:DW K x=some (.slice none 0 0))(hy:DW K y=some (.slice none 0 0)):Gf P N K o w (.bool true):=by
 intro a hK w' _
 simp [execOp,ho,hK.ev hx,hK.ev hy,eqGuard,binOp,run_equal_slice_nil,hu]
theorem Ux{t x y u e p n cap}(ho:o.op= .binOp .eql t x y u)(hu:P.underlying t=some (.slice e))(hx:DW K x=some (.slice (some p) n cap))(hy:DW K y=some (.slice none 0 0)):Gf P N K o w (.bool false):=by
 intro a hK w' _
 simp [execOp,ho,hK.ev hx,hK.ev hy,eqGuard,binOp,run_equal_slice_nil,hu]
theorem AF.nil_or{α:Type}{c:EJ α}{S:Nat->Prop}{xs:List α}{v:Value}(h:AF c w S xs v):(v= .slice none 0 0∧xs=[])∨∃p n cap,v= .slice (some p) n cap:=by
 obtain⟨a,cap,rfl,⟨h2,h3⟩,_,_⟩:=h
 cases a with
 |none=>
  have:=h3 rfl
  have hx:xs=[]:=BX (by omega)
  subst hx;subst this;exact .inl ⟨rfl,rfl⟩
 |some p=>exact .inr ⟨p,_,cap,rfl⟩
variable {Q:Exit -> Act -> World -> Prop}
theorem WC.cond_t{c:Operand}{x y:Code}(hc:DW K c=some (.bool true))(ht:WC P N x Q K w):WC P N (.cond c x y) Q K w:=WC.cond hc (fun _=>ht) (fun h=>absurd h (by decide))
theorem WC.cond_f{c:Operand}{x y:Code}(hc:DW K c=some (.bool false))(hf:WC P N y Q K w):WC P N (.cond c x y) Q K w:=WC.cond hc (fun h=>absurd h (by decide)) (fun _=>hf)
/-! ## A drawn region that writes what was there: the blocks of p -/
def YA(P:Program)(N:Nat)(K:KL)(o:Oper)(Ψ:Value->Prop):Prop:=∃v,(∀w,Gf P N K o w v)∧Ψ v
theorem Rx{α:Type}{c:EJ α}{xs:List α}{y:α}{t x i e v k m S}(ho:o.op= .indexAddr t x i)(hu:P.underlying t=some (.slice e))(hc:CE P e=some c.n)(hx:DW K x=some v)
 (hi2:DW K i=some (.int k m)) (hs:AF c w S xs v) (hg:AL xs m=some y):
 YA P N K o (fun u=>∃b off us,u= .pointer (some ⟨b,off,none⟩)∧S b∧c.rep w S y us∧Ab w b off us):=by
 obtain⟨a,cap,rfl,h2,h3,h4⟩:=hs
 obtain⟨g0,g1,g2⟩:=HH hg
 obtain⟨b,off,rfl,h5,h7⟩:=h4 (by omega)
 obtain⟨us,h8,h9⟩:=h7 _ _ g2
 exact⟨_,fun w=>Ha ho hu hc hx hi2 g0 g1,b,_,us,rfl,h5,h8,h9⟩
theorem DO{α:Type}{c:EJ α}{xs:List α}{v:Value}{B:Nat}{S:Nat->Prop}{e:TypeId}{y:α}{t x i k m}(ho:o.op= .indexAddr t x i)(hu:P.underlying t=some (.slice e))(hc:CE P e=some c.n)(hx:DW K x=some v)
 (hi2:DW K i=some (.int k m)) (hs:AC c w B S e xs v) (hg:AL xs m=some y):
 YA P N K o (fun u=>∃g us,u= .pointer (some ⟨g,0+m.toNat*c.n,none⟩)∧v.ownBlock=some g∧c.rep w S y us∧Ab w g (0+m.toNat*c.n) us):=by
 obtain⟨u,h1,g,us,rfl,h2,h3,h4⟩:=PR (N:=N) ho hu hc hx hi2 hs hg
 obtain⟨g0,g1,g2⟩:=HH hg
 obtain⟨cs,⟨hl,⟨rfl,_⟩|⟨g',cap,cur,rfl,_⟩⟩,_⟩:=hs
 ·cases h2
 ·have h2:g'=g:=AM h2
  subst h2
  exact⟨_,fun w=>by have:=Ha (N:=N) (w:=w) ho hu hc hx hi2 g0 g1;simpa [EM] using this,g',us,rfl,rfl,h3,h4⟩
end
section
variable {P:Program} {N:Nat} {ops:Array Oper} {Q:Exit -> Act -> World -> Prop} {n:Nat} {K:KL} {w w0:World} {f:Nat} {listed:Array Bool} {p:Nat -> Prop}
def Js(P:Program)(N:Nat)(ops:Array Oper)(n:Nat)(Q:Exit->Act->World->Prop)(p:Nat->Prop)(w0:World)(f:Nat)(listed:Array Bool)(K:KL)(w:World):Prop:=
 HeadInv .any ops n listed->BH p w0 w->∀a,Kn N K a->Ek P .any ops n Q (fun w'=>BH p w0 w') f listed a w
theorem Js.yld{o:Oper}{v:Value}(i:Nat)(hh:Fo ops n=true)(hi:ops[i]? =some o)(hc:(Nat.blt i n&&Region.free .any ops listed i&&(Region.ready .any ops listed).contains i)=true)(hg:o.guard=none)(hd:EC N o.dst=true)
 (h:∀wx,BH p w0 wx->Gf P N K o wx v) (k:Js P N ops n (noPan Q) p w0 f (listed.setIfInBounds i true) (Cc K o.dst v) w):Js P N ops n (noPan Q) p w0 (f+1) listed K w:=by
 intro inv hx a hK
 obtain⟨hs,hn,ht⟩:=Fo.spec hh
 simp only [AD]at hc
 have hin:i<n:=by have h2:=hc.1.1;simp [Nat.blt]at h2;omega
 have hr:i∈Region.ready .any ops listed:=by simpa using hc.2
 refine Ek.first hi hin hn (FX hs) ht (fun c a w h=>h.elim) f listed a w inv (Region.free_spec hi hc.1.2) hr ?_ hx (k (inv.set hr hin) hx _ (hK.put (EC.h hd)))
 exact .inl ⟨by simp [Region.wanted,hg],fun w' hw'=>h w' hw' a hK w' (AU.refl w')⟩
theorem Js.ya{o:Oper}{Ψ:Value->Prop}(i:Nat)(hh:Fo ops n=true)(hi:ops[i]? =some o)(hc:(Nat.blt i n&&Region.free .any ops listed i&&(Region.ready .any ops listed).contains i)=true)(hg:o.guard=none)(hd:EC N o.dst=true)
 (h:YA P N K o Ψ) (k:∀v,Ψ v->Js P N ops n (noPan Q) p w0 f (listed.setIfInBounds i true) (Cc K o.dst v) w):Js P N ops n (noPan Q) p w0 (f+1) listed K w:=by
 obtain⟨v,h1,h2⟩:=h;exact Js.yld i hh hi hc hg hd (fun wx _=>h1 wx) (k v h2)
theorem Js.eff{o:Oper}{R:Value->World->Prop}(i:Nat)(hi:ops[i]? =some o)(hin:Nat.blt i n=true)(hr:Region.ready .any ops listed=[i])(hg:o.guard=none)(hd:EC N o.dst=true)
 (h:IP P N K o w R) (k:∀v w',R v w'->BH p w0 w'∧Js P N ops n (noPan Q) p w0 f (listed.setIfInBounds i true) (Cc K o.dst v) w'):Js P N ops n (noPan Q) p w0 (f+1) listed K w:=by
 intro inv hx a hK
 have hin':i<n:=by have h2:=hin;simp [Nat.blt]at h2;omega
 have hri:i∈Region.ready .any ops listed:=by rw [hr];simp
 refine⟨fun h0=>(by rw [h0]at hr;cases hr),fun j hj=>?_⟩
 rw [hr]at hj
 have hji:j=i:=by simpa using hj
 subst hji
 unfold wpOp
 simp only [hi]
 rw [BE (by simp [Region.wanted,hg])]
 refine .inl (h a hK _ _ fun u w' hR=>?_)
 obtain⟨h1,h2⟩:=k u w' hR
 exact⟨fun _=>h1,h2 (inv.set hri hin') h1 _ (hK.put (EC.h hd))⟩
theorem Js.tail{l:List Oper}(hops:ops=l.toArray)(hseq:Region.seqB .any ops (l.drop n).length n listed=true)(hf:f=(l.drop n).length)(k:TL P N ops (noPan Q) (l.drop n) K w):Js P N ops n (noPan Q) p w0 f listed K w:=by
 intro inv hx a hK
 rw [hf]
 exact Ek.seq (l.drop n) n listed a w (fun j=>by rw [hops,Bx];simp) (BN n) hseq (k a hK)
theorem WC.heldG{id:Nat}{l:List Oper}(n:Nat)(hm:P.follows .mixedOrders=true)
 (h:∀w',AU w w'->Js P N l.toArray n (noPan Q) p w' l.length (Array.replicate l.length false) K w'):WC P N (.region id l.toArray true) Q K w:=by
 intro a hK
 have inv0:HeadInv .any l.toArray n (Array.replicate l.length false):=
  ⟨by simp,fun j oj _ hl=>(by rw [getD_replicate_false]at hl;cases hl),fun t _ ht=>getD_in (by simpa using ht) (getD_replicate_false _ _)⟩
 refine Code.wp_mono ?_ (wp_region_any hm (Ek.any _ _ _ _ (h w.drew (AU.drew w) (by simpa using inv0) (BH.refl p _) a hK)))
 intro e a w hq
 cases e<;>first|exact hq|exact hq.elim
theorem Ab.but{b off:Nat}{us:List Value}(h:Ab w b off us)(hb:BH p w w0)(hne:∀k,p k->k≠b)(hlt:b<w.heap.size):Ab w0 b off us:=h.block (hb.block b hlt (fun e=>hne b e rfl))
end
/-! ## What is left out within what is left out -/
section
variable {P:Program} {N:Nat} {ops:Array Oper} {Q:Exit -> Act -> World -> Prop} {K:KL} {w:World} {o:Oper} {rest:List Oper} {Qa:Act -> Prop}
end
end Go.Eng
namespace Go.Eng
open Go Go.RowKit
/-! ## Ui laws on the statements' marks -/
theorem wSE{i:Nat}(h:i<4611686018427387904):IntKind.wrap IntKind.i64 ((i:Int)+1)=((i+1:Nat):Int):=by rw [BD (by omega) (by omega)];simp
end Go.Eng
namespace Go.Eng
open Go Go.RowKit
/-! ## Arrays in a box, texts put together, bytes as a text -/
section
variable {P:Program} {N:Nat} {K:KL} {o:Oper} {w:World}
theorem PV{t x i e b off k m sz len}(ho:o.op= .indexAddr t x i)(hu:P.underlying t=some (.array len e))(hc:CE P e=some sz)(hx:DW K x=some (.pointer (some ⟨b,off,none⟩)))
 (hi:DW K i=some (.int k m)) (h0:0<=m∧m<(len:Int)):Gf P N K o w (.pointer (some ⟨b,off+m.toNat*sz,none⟩)):=by
 intro a hK w' _
 obtain⟨i,hi2,hs⟩:=Ag.1 hc
 simp [execOp,ho,hK.ev hx,hK.ev hi,Instr.indexAt,Instr.sureAddr,asIntOf,BZ hu,h0.1,h0.2,sizeOf,typeInfo,hi2,hs,EM]
def Qn(x y:ByteArray):Option ByteArray:=if ((x.size+y.size:Nat):Int)>IntKind.i64.max then none else some (x++y)
theorem Pa{t x y u m n r}(ho:o.op= .binOp .add t x y u)(hx:DW K x=some (.string m))(hy:DW K y=some (.string n))(hr:Qn m n=some r):Gf P N K o w (.string r):=by
 intro a hK w' _
 unfold Qn at hr
 split at hr
 ·cases hr
 ·rename_i hn
  obtain rfl:=AM hr
  have e:(binOp .add t (.string m) (.string n)).run P w'= .ok (.string (m++n)) w':=by
   show(Op.stringOp .add m n).run P w'=_
   unfold Op.stringOp
   rw [BV hn];rfl
  simp [execOp,ho,hK.ev hx,hK.ev hy,eqGuard,CI,e]
def Uq(xs:List Int):ByteArray:=xs.foldl (fun r n=>r.push (UInt8.ofNat n.toNat)) ByteArray.empty
theorem QI{s t x e v xs S}(ho:o.op= .convert s t x)(hs:P.underlying s=some (.slice e))(he:P.underlying e=some (.int .u8))(ht:P.underlying t=some .string)(hx:DW K x=some v)(hr:AF (Bo .u8) w S xs v):
 Gf P N K o w (.string (Uq xs)):=by
 intro a hK w' hw
 obtain⟨ad,cap,rfl,⟨h2,h3⟩,h4,h5⟩:=hr
 have e1:=run_convert_bytes_string (P:=P) w' s t e ad xs.length cap hs he ht
 have e2:(Conv.bytesToString (.slice ad xs.length cap)).run P w'= .ok (.string (Uq xs)) w':=by
  cases ad with
  |none=>
   have:xs=[]:=by
    cases xs with
    |nil=>rfl
    |cons y ys=>obtain⟨b,off,q,_⟩:=h5 (by simp);cases q
   subst this;rfl
  |some ad=>
   refine run_bytesToString w' ad xs.length cap xs ?_
   by_cases hl:0<xs.length
   ·obtain⟨b,off,q,_,h6⟩:=h5 hl
    obtain rfl:=AM q
    have:=GA (P:=P) w' ⟨b,off,none⟩ (xs.map (Value.int .u8)) (fun j v hj=>by
     rw [FO]at hj
     cases hx2:xs[j]? with
     |none=>rw [hx2]at hj;cases hj
     |some y=>
      rw [hx2]at hj
      obtain rfl:=AM hj
      obtain⟨us,h7,h8⟩:=h6 j y hx2
      obtain rfl:us=[.int .u8 y]:=h7
      have h9:=h8.ext hw 0 _ rfl
      rw [EM]
      simpa [Bo] using h9.1)
    simpa using this
   ·have:xs=[]:=by
     cases xs with
     |nil=>rfl
     |cons y ys=>simp at hl
    subst this;rfl
 simp [execOp,ho,hK.ev hx,e1,e2]
end
/-! ## Ui laws on sizes and marks -/
theorem Qt{x y:ByteArray}(h:x.size+y.size<=4611686018427387904):Qn x y=some (x++y):=by
 unfold Qn
 rw [BV (by show¬_>(9223372036854775807:Int);omega)]
theorem QE(xs:List Int):(Uq xs).size=xs.length:=by
 have:∀(xs:List Int) (b:ByteArray),(xs.foldl (fun r n=>r.push (UInt8.ofNat n.toNat)) b).size=b.size+xs.length:=by
  intro xs;induction xs with
  |nil=>intro b;rfl
  |cons x xs ih=>intro b;rw [EE,ih,ByteArray.size_push,CM];omega
 have:=this xs ByteArray.empty
 simpa [Uq] using this
end Go.Eng
namespace Go.Eng
open Go Go.RowKit Go.ChangeShapes Go.WideShapes Go.ChangeAt
/-! ## A statement whose answer is true, where package-level variables are laid -/
theorem kR{C:Checked}{os:Os}{f:FuncId}{fn:Func}{s:ChangeSpec}{conds:List PathCond}{H:Type}{enc:TypeId×Value->H}{tb:TypeId}{laid:List (String×DataW Unit)}
 (own:ownKnob C.prog.godebug=none) (started:os.Started) (noInit:C.prog.inits.idxOf? f=none) (hfn:C.prog.funcs[f]? =some fn)
 (witness:∃(w:World) (tape:Tape) (i:Input),w.os=os∧(w.forCall tape i).Shaped C.prog∧i.vars=[]∧Input.okWide C.prog (w.forCall tape i) .any w.heap.size f i∧
  ((s.pre enc C.prog fn conds false (w.forCall tape i).memory i.args∧laidMetH C.prog laid (w.forCall tape i).memory)∧sizedMet enc C.prog fn (OpenSpec.ofChange s) false (w.forCall tape i).memory i.args)∧({}:Assume).holds C.prog (lone (Frame.enter C.prog f i.args .normal) [] (w.forCall tape i)))
 (hl:laidOutB C.prog=true) (hvars:s.vars=[]) (hspec:∀ds:List (DataW H),ds.length=fn.params.toList.length->s.fn H ds={ results:=[.lit (.bool true)],args:=ds })
 (hrt:fn.resultTypes= #[tb]) (hub:C.prog.underlying tb=some .bool) (hpar:∀t∈fn.params.toList,C.prog.readableRec t=true∧t<C.prog.types.size)
 (run:∀(W:World) (base:Nat) (args:Array Value) (ds:List (DataW H)) (p:List MemPlace),
  (∀(j:Nat) t v,fn.params[j]? =some t->args[j]? =some v->Value.okWide C.prog W .any base t v)->
  DataW.TrodAll enc C.prog W 0 (fun _=>true) true fn.params.toList args.toList ds p->W.noneFrozen p->
  Calls C.prog f args W (Fu fun u w2=>u= .bool true∧AU W w2)):
 ReturnsInHanded {} C os f .any (fun w args=>(s.pre enc C.prog fn conds false w args∧laidMetH C.prog laid w)∧sizedMet enc C.prog fn (OpenSpec.ofChange s) false w args) (s.post enc C.prog fn false true false false):=by
 refine returnsInHanded_of_change_and (X:=fun w _=>laidMetH C.prog laid w) (fun _ _ _ hh h=>h.of_heap hh) own started noInit hfn witness ?_
 intro W base args ds gs before hval hW _ _ _ _
 have hW':=hW
 obtain⟨p,q,hA,hV,rfl,hz,_⟩:=hW
 rw [hvars]at hV
 obtain⟨rfl,rfl⟩:=trodVars_none hV
 refine(run W base args ds p hval hA (fun b' o' hm=>hz b' o' (Ei _ hm))).mono fun e W' ⟨v,he,hv,hB⟩=>?_
 subst hv
 have e1:s.fn H (ds++[])={ results:=[.lit (.bool true)],args:=ds }:=by rw [Eb];exact hspec ds (QW hA)
 refine⟨_,he,ds,[],p++[],[],p,[],hW',?_,?_,?_,hB.frame _,fun h=>by cases h⟩
 ·rw [e1,hrt]
  exact⟨[],[],⟨1,by simp [DataW.trod,Value.cells,hub]⟩,rfl,rfl⟩
 ·rw [e1]
  exact OM hl hB hpar hA (fun x hx=>hW'.lt x (Ei _ hx))
 ·rw [e1,hvars];rfl
section
variable {H:Type} {enc:TypeId × Value -> H} {P:Program} {w:World} {base:Nat} {spare:Nat -> Bool} {held:Bool}
theorem nR{t:TypeId}{ts:List TypeId}{vs:List Value}{ds:List (DataW H)}{ps:List MemPlace}(h:DataW.TrodAll enc P w base spare held (t::ts) vs ds ps):
 ∃v vs' d ds' p q,vs=v::vs'∧ds=d::ds'∧DataW.Trod enc P w base spare held t v d p∧DataW.TrodAll enc P w base spare held ts vs' ds' q:=by
 match vs,ds,h with
 |v::vs',d::ds',⟨p,q,h1,h2,_⟩=>exact⟨v,vs',d,ds',p,q,rfl,rfl,h1,h2⟩
theorem oR{vs:List Value}{ds:List (DataW H)}{ps:List MemPlace}(h:DataW.TrodAll enc P w base spare held [] vs ds ps):vs=[]∧ds=[]:=by
 match vs,ds,h with
 |[],[],_=>exact⟨rfl,rfl⟩
theorem mF{t:TypeId}{ts:List TypeId}{vs:List Value}{ds:List (DataW H)}{ps:List MemPlace}(h:DataW.TrodAll enc P w base spare held (t::ts) vs ds ps)(hz:w.noneFrozen ps):
 ∃v vs' d ds' p q,vs=v::vs'∧ds=d::ds'∧DataW.Trod enc P w base spare held t v d p∧w.noneFrozen p∧DataW.TrodAll enc P w base spare held ts vs' ds' q∧w.noneFrozen q:=by
 match vs,ds,h with
 |v::vs',d::ds',⟨p,q,h1,h2,e⟩=>subst e;exact⟨v,vs',d,ds',p,q,rfl,rfl,h1,fun b o hm=>hz b o (Ei _ hm),h2,fun b o hm=>hz b o (List.mem_append_right _ hm)⟩
theorem vM{a:Array Value}{l:List Value}(h:a.toList=l):a=l.toArray:=by rw [←h]
end
section
variable {P:Program} {N:Nat} {K:KL} {o:Oper} {w w0:World}
theorem LZ{α:Type}{c:EJ α}{B:Nat}{S:Nat->Prop}{e:TypeId}{xs:List α}{v:Value}{t x}(ho:o.op= .call { callee:=.builtin .len,args:=#[x],argTypes:=#[t] })(hu:P.underlying t=some (.slice e))(hx:DW K x=some v)(hs:AC c w0 B S e xs v):
 Gf P N K o w (.int .i64 xs.length):=by
 obtain⟨cs,⟨_,⟨rfl,hn⟩|⟨g,cap,cur,rfl,_⟩⟩,_⟩:=hs
 ·have:=Nu (N:=N) (w:=w) ho hu hx;rw [hn];exact this
 ·exact Nu ho hu hx
theorem dI{α:Type}{c:EJ α}{e:TypeId}{xs:List α}{v:Value}{S:Nat->Prop}{t x}(ho:o.op= .call { callee:=.builtin .len,args:=#[x],argTypes:=#[t] })(hu:P.underlying t=some (.slice e))(hx:DW K x=some v)(hs:AF c w0 S xs v):
 Gf P N K o w (.int .i64 xs.length):=by
 obtain⟨a,cap,rfl,h2,h3,h4⟩:=hs
 exact Nu ho hu hx
end
end Go.Eng
namespace Go.Eng
open Go Go.RowKit
/-! ## Orders of a drawn region that writes -/
section
variable {P:Program} {N:Nat} {ops:Array Oper} {Q:Exit -> Act -> World -> Prop} {n:Nat} {K:KL} {w w0:World} {f:Nat} {listed:Array Bool} {p:Nat -> Prop}
def oO(P:Program)(N:Nat)(ops:Array Oper)(n:Nat)(Q:Exit->Act->World->Prop)(p:Nat->Prop)(w0:World)(f:Nat)(listed:Array Bool)(K:KL)(w:World)(j:Nat):Prop:=
 HeadInv .any ops n listed->BH p w0 w->∀a,Kn N K a->wpOp P ops Q j (fun a' w'=>(j<n->BH p w0 w')∧Ek P .any ops n Q (fun w'=>BH p w0 w') f (listed.setIfInBounds j true) a' w') a w
theorem Js.many{js:List Nat}(hr:Region.ready .any ops listed=js)(hne:js.isEmpty=false)(h:∀j∈js,oO P N ops n Q p w0 f listed K w j):Js P N ops n Q p w0 (f+1) listed K w:=by
 intro inv hx a hK
 refine⟨fun h0=>(by rw [hr]at h0;subst h0;cases hne),fun j hj=>?_⟩
 rw [hr]at hj
 exact h j hj inv hx a hK
theorem oO.eff{o:Oper}{R:Value->World->Prop}(i:Nat)(hi:ops[i]? =some o)(hin:Nat.blt i n=true)(hr:(Region.ready .any ops listed).contains i=true)(hg:o.guard=none)(hd:EC N o.dst=true)
 (h:IP P N K o w R) (k:∀v w',R v w'->BH p w0 w'∧Js P N ops n (noPan Q) p w0 f (listed.setIfInBounds i true) (Cc K o.dst v) w'):oO P N ops n (noPan Q) p w0 f listed K w i:=by
 intro inv hx a hK
 have hin':i<n:=by have h2:=hin;simp [Nat.blt]at h2;omega
 have hri:i∈Region.ready .any ops listed:=by simpa using hr
 unfold wpOp
 simp only [hi]
 rw [BE (by simp [Region.wanted,hg])]
 refine .inl (h a hK _ _ fun u w' hR=>?_)
 obtain⟨h1,h2⟩:=k u w' hR
 exact⟨fun _=>h1,h2 (inv.set hri hin') h1 _ (hK.put (EC.h hd))⟩
theorem BH.trans(h:BH p w0 w){w2:World}(h2:BH p w w2):BH p w0 w2:=h.but h2 fun _ hk=>.inl hk
theorem Js.shrink(h:Js P N ops n Q p w f listed K w):Js P N ops n Q p w0 f listed K w:=by
 intro inv hx a hK
 exact Ek.mono (fun w2 h2=>BH.trans hx h2) _ _ _ _ (h inv (BH.refl p w) a hK)
end
end Go.Eng
namespace Go.Eng
open Go Go.RowKit
/-! ## The beginning of an own slice -/
def lS(v:Value)(m:Nat):Value:=match v with
 | .slice a _ cap=>.slice a m cap
 |v=>v
section
variable {P:Program} {N:Nat} {o:Oper} {K:KL} {w:World}
variable {α:Type} {c:EJ α} {B:Nat} {S:Nat -> Prop} {e:TypeId} {xs:List α} {v:Value}
theorem aN{m:Nat}:(lS v m).ownBlock=v.ownBlock:=by
 cases v with
 |slice a n cap=>cases a<;>rfl
 |_=>rfl
theorem AC.cut(h:AC c w B S e xs v){m:Nat}(hm:m<=xs.length):AC c w B S e (xs.take m) (lS v m):=by
 obtain⟨cs,⟨hl,h1⟩,h2⟩:=h
 have hmn:m*c.n<=xs.length*c.n:=Bh _ hm
 refine⟨cs.take (m*c.n),⟨?_,?_⟩,?_⟩
 ·rw [DM,DM]
  rw [show min m xs.length=m by omega];omega
 ·rw [DM,show min m xs.length=m by omega]
  rcases h1 with ⟨rfl,h0⟩|⟨g,cap,cur,rfl,a1,a2,a3,a4,a5,a6⟩
  ·obtain rfl:m=0:=by omega
   exact .inl ⟨rfl,rfl⟩
  ·refine .inr ⟨g,cap,cur,rfl,a1,a2,by omega,a4,a5,?_⟩
   rw [←a6,List.take_take]
   congr 1;omega
 ·intro i x hx
  have hi:i<m:=by
   have:=(AK.1 hx).1
   rw [DM]at this;omega
  rw [List.getElem?_take_of_lt hi]at hx
  have:=h2 i x hx
  have e1:Ba (cs.take (m*c.n)) c.n i=Ba cs c.n i:=by
   unfold Ba
   have:(i+1)*c.n<=m*c.n:=Bh _ (by omega)
   rw [CT]at this
   rw [List.drop_take,List.take_take]
   congr 1;omega
  rw [e1];exact this
end
end Go.Eng
namespace Go.Eng
open Go Go.RowKit
/-! ## Steps that ask for no fact, many at once -/
def mK(op:BinOp)(k:IntKind)(m n:Int):Option Value:=match op with
 | .add=>some (.int k (k.wrap (m+n)))
 | .sub=>some (.int k (k.wrap (m-n)))
 | .mul=>some (.int k (k.wrap (m*n)))
 | .quo=>bif n==0 then none else some (.int k (k.wrap (m.tdiv n)))
 | .rem=>bif n==0 then none else some (.int k (m.tmod n))
 | .lss=>some (.bool (decide (m<n)))
 | .leq=>some (.bool (decide (m<=n)))
 | .gtr=>some (.bool (decide (m>n)))
 | .geq=>some (.bool (decide (m>=n)))
 | .eql=>some (.bool (m==n))
 | .neq=>some (.bool (m !=n))
 |_=>none
def yq(K:KL)(p:Op):Option Value:=match p with
 | .move x=>DW K x
 | .assign x=>DW K x
 | .binOp op _ x y _=>match DW K x,DW K y with
  |some (.int k m),some (.int k' n)=>bif decide (k=k')then mK op k m n else none
  |some (.string a),some (.string b)=>match op with
   | .eql=>some (.bool (a.toList==b.toList))
   | .neq=>some (.bool (a.toList !=b.toList))
   |_=>none
  |_,_=>none
 | .unOp u _ x=>match DW K x with
  |some (.bool b)=>match u with
   | .not=>some (.bool (!b))
   |_=>none
  |some (.int k m)=>match u with
   | .neg=>some (.int k (k.wrap (0-m)))
   |_=>none
  |_=>none
 | .extract x i=>match DW K x with
  |some (.tuple vs)=>vs[i]?
  |_=>none
 | .pick c x y=>match DW K c with
  |some (.bool b)=>match b with
   |true=>DW K x
   |false=>DW K y
  |_=>none
 |_=>none
section
variable {P:Program} {N:Nat}
theorem fS{K:KL}{o:Oper}{w:World}{op t x y u k m n v}(ho:o.op= .binOp op t x y u)(hx:DW K x=some (.int k m))(hy:DW K y=some (.int k n))(h:mK op k m n=some v):Gf P N K o w v:=by
 cases op<;>simp only [mK,DE,reduceCtorEq]at h
 case add=>subst h;exact KN ho hx hy
 case sub=>subst h;exact eZ ho hx hy
 case mul=>subst h;exact KJ ho hx hy
 case quo=>obtain⟨h1,h2⟩:=OI h;obtain rfl:=AM h2;exact TU ho hx hy h1
 case rem=>obtain⟨h1,h2⟩:=OI h;obtain rfl:=AM h2;exact MC ho hx hy h1
 case lss=>subst h;exact gV ho hx hy
 case leq=>subst h;exact dZ ho hx hy
 case gtr=>subst h;exact fN ho hx hy
 case geq=>subst h;exact gB ho hx hy
 case eql=>subst h;exact eS ho hx hy
 case neq=>subst h;exact eG ho hx hy
theorem QX{K:KL}{o:Oper}{w:World}{v:Value}(h:yq K o.op=some v):Gf P N K o w v:=by
 generalize ho:o.op=p at h
 cases p<;>simp only [yq,reduceCtorEq]at h
 case move=>exact Kp ho h
 case assign=>exact Vs ho h
 case binOp=>
  split at h
  ·rename_i k m k' n hx hy
   by_cases hk:k=k'
   ·subst hk;rw [AX rfl]at h;exact fS ho hx hy h
   ·rw [Aa hk]at h;cases h
  ·rename_i a b hx hy
   split at h
   ·obtain rfl:=AM h;exact fP ho hx hy
   ·obtain rfl:=AM h;exact gX ho hx hy
   ·cases h
  ·cases h
 case unOp=>
  split at h
  ·rename_i b hx
   split at h
   ·obtain rfl:=AM h;exact dW ho hx
   ·cases h
  ·rename_i k m hx
   split at h
   ·obtain rfl:=AM h;exact dX ho hx
   ·cases h
  ·cases h
 case extract=>
  split at h
  ·rename_i vs hx;exact FP ho hx h
  ·cases h
 case pick=>
  split at h
  ·rename_i b hc
   split at h
   ·exact Vj ho hc rfl h
   ·exact VQ ho hc rfl h
  ·cases h
end
inductive Gd where
 |yes|skip|no
def IM(N:Nat)(ops:Array Oper)(K:KL)(o:Oper):Gd:=match EC N o.dst with
 |false=>.no
 |true=>match o.guard with
  |none=>.yes
  |some (j,want)=>match QJ ops j with
   |none=>.no
   |some t=>match kl K t with
    |some (.bool b)=>match b with
     |true=>match want with
      |true=>.yes
      |false=>.skip
     |false=>match want with
      |true=>.skip
      |false=>.yes
    |some (.tuple _)=>.skip
    |_=>.no
section
variable {P:Program} {N:Nat} {ops:Array Oper} {Q:Exit -> Act -> World -> Prop} {K:KL} {w:World} {o:Oper} {rest:List Oper} {Qa:Act -> Prop}
theorem Nj{g:Gd}(h:IM N ops K o=g)(hg:g≠ .no):EC N o.dst=true:=by
 subst h
 cases hd:EC N o.dst with
 |true=>rfl
 |false=>exact absurd (by simp [IM,hd]) hg
theorem IV(h:IM N ops K o= .yes){a:Act}(hK:Kn N K a):Region.wanted o (yielded ops a.tmps)=true:=by
 unfold IM at h
 split at h
 ·cases h
 split at h
 ·rename_i hg;simp [Region.wanted,hg]
 ·rename_i j want hg
  split at h
  ·cases h
  ·rename_i t hs
   split at h
   ·rename_i b hb
    refine VX hK hg hs hb ?_
    cases b<;>cases want<;>first|rfl|cases h
   ·cases h
   ·cases h
theorem RO(h:IM N ops K o= .skip){a:Act}(hK:Kn N K a):Region.wanted o (yielded ops a.tmps)=false:=by
 unfold IM at h
 split at h
 ·cases h
 split at h
 ·cases h
 ·rename_i j want hg
  split at h
  ·cases h
  ·rename_i t hs
   split at h
   ·rename_i b hb
    refine XY hK hg hs hb ?_
    cases b<;>cases want<;>first|rfl|cases h
   ·rename_i x hb
    have h1:=hK.get t _ hb
    unfold QJ at hs
    simp [Region.wanted,hg,yielded,hs,h1]
   ·cases h
theorem Yl{v:Value}(h0:IM N ops K o= .yes)(h:Gf P N K o w v)(k:TL P N ops Q rest (Cc K o.dst v) w):TL P N ops Q (o::rest) K w:=by
 intro a hK
 unfold wpList
 rw [BE (IV h0 hK)]
 exact .inl (h.eff a hK _ Q fun u w' ⟨e1,e2⟩=>by subst e1 e2;exact k _ (hK.put (EC.h (Nj h0 (by simp)))))
theorem Ef{R:Value->World->Prop}(h0:IM N ops K o= .yes)(h:IP P N K o w R)(k:∀v w',R v w'->TL P N ops Q rest (Cc K o.dst v) w'):TL P N ops Q (o::rest) K w:=by
 intro a hK
 unfold wpList
 rw [BE (IV h0 hK)]
 exact .inl (h a hK _ Q fun u w' hR=>k u w' hR _ (hK.put (EC.h (Nj h0 (by simp)))))
theorem Ye{Ψ:Value->Prop}(h0:IM N ops K o= .yes)(h:YE P N K o w Ψ)(k:∀v,Ψ v->TL P N ops Q rest (Cc K o.dst v) w):TL P N ops Q (o::rest) K w:=by
 obtain⟨v,h1,h2⟩:=h;exact Yl h0 h1 (k v h2)
theorem Sk(h0:IM N ops K o= .skip)(k:TL P N ops Q rest (Cc K o.dst undef) w):TL P N ops Q (o::rest) K w:=by
 intro a hK
 unfold wpList
 rw [BV (by rw [RO h0 hK];exact Bool.false_ne_true)]
 exact k _ (hK.put (EC.h (Nj h0 (by simp))))
theorem Ql{v:Value}(h0:IM N ops K o= .yes)(h:vJ P N K o w v)(k:QL P N ops w Qa rest (Cc K o.dst v)):QL P N ops w Qa (o::rest) K:=by
 intro a hK
 unfold wpQuiet
 rw [BE (IV h0 hK)]
 exact⟨v,fun w' hw'=>h a hK w' hw',k _ (hK.put (EC.h (Nj h0 (by simp))))⟩
theorem Qy{v:Value}(h0:IM N ops K o= .yes)(h:Gf P N K o w v)(k:QL P N ops w Qa rest (Cc K o.dst v)):QL P N ops w Qa (o::rest) K:=Ql h0 h.qui k
theorem Qe{Ψ:Value->Prop}(h0:IM N ops K o= .yes)(h:YE P N K o w Ψ)(k:∀v,Ψ v->QL P N ops w Qa rest (Cc K o.dst v)):QL P N ops w Qa (o::rest) K:=by
 obtain⟨v,h1,h2⟩:=h;exact Qy h0 h1 (k v h2)
theorem Qs(h0:IM N ops K o= .skip)(k:QL P N ops w Qa rest (Cc K o.dst undef)):QL P N ops w Qa (o::rest) K:=by
 intro a hK
 unfold wpQuiet
 rw [BV (by rw [RO h0 hK];exact Bool.false_ne_true)]
 exact k _ (hK.put (EC.h (Nj h0 (by simp))))
theorem Kn.know{a:Act}{t:Nat}{u u':Value}(hK:Kn N K a)(h:kl K t=some u)(e:u=u'):Kn N ((t,u')::K) a:=by
 subst e
 refine⟨hK.df,hK.sz,fun s v hs=>hK.get s v ?_⟩
 simp only [kl]at hs
 cases hb:Nat.beq t s with
 |true=>obtain rfl:=Az hb;rw [hb]at hs;simp at hs;subst hs;exact h
 |false=>rw [hb]at hs;simpa using hs
theorem Kc(t:Nat){b b':Bool}{l:List Oper}(e:b=b')(h:kl K t=some (.bool b))(k:TL P N ops Q l ((t,.bool b')::K) w):TL P N ops Q l K w:=fun a hK=>k a (hK.know h (by rw [e]))
theorem Kq(t:Nat){b b':Bool}{l:List Oper}(e:b=b')(h:kl K t=some (.bool b))(k:QL P N ops w Qa l ((t,.bool b')::K)):QL P N ops w Qa l K:=fun a hK=>k a (hK.know h (by rw [e]))
theorem vA{c b:Bool}(h:c=true):b=(c&&b):=by subst h;rfl
theorem vN{c b:Bool}(h:c=false):false=(c&&b):=by subst h;rfl
theorem vD{c b:Bool}(h:c=true):true=(c||b):=by subst h;rfl
theorem uY{c b:Bool}(h:c=false):b=(c||b):=by subst h;rfl
end
inductive Frame where
 |seq (c:Code)
 |blk (id:Nat)
 |lp (f:Act->World->Prop)
inductive Md where
 |c (c:Code)
 |o (ops:Array Oper) (l:List Oper)
 |e (e:Exit)
section
variable (P:Program) (N:Nat) (Q0:Exit -> Act -> World -> Prop)
def IQ:List Frame->Exit->Act->World->Prop
 |[]=>Q0
 | .seq c::fs=>Exit.then (fun a w=>c.wp P (IQ fs) a w) (IQ fs)
 | .blk id::fs=>Exit.inBlock id (IQ fs)
 | .lp f::fs=>Exit.then f (IQ fs)
def vB(m:Md)(fs:List Frame)(K:KL)(w:World):Prop:=match m with
 | .c c=>WC P N c (IQ P Q0 fs) K w
 | .o ops l=>TL P N ops (IQ P Q0 fs) l K w
 | .e e=>NX N (IQ P Q0 fs) e K w
def Jo:Nat->Md->List Frame->KL->World->Prop
 |0=>fun m fs K w=>vB P N Q0 m fs K w
 |n+1=>fun m fs K w=>match m with
  | .c c=>match c with
   | .seq x y=>Jo n (.c x) (.seq y::fs) K w
   | .region _ ops false=>Jo n (.o ops ops.toList) fs K w
   | .block id x=>Jo n (.c x) (.blk id::fs) K w
   | .skip=>Jo n (.e .normal) fs K w
   | .exit id=>Jo n (.e (.exit id)) fs K w
   | .ret=>Jo n (.e .ret) fs K w
   |_=>False
  | .o ops l=>match l with
   |[]=>Jo n (.e .normal) fs K w
   |o::rest=>match IM N ops K o with
    | .yes=>match yq K o.op with
     |some v=>Jo n (.o ops rest) fs (Cc K o.dst v) w
     |none=>False
    | .skip=>Jo n (.o ops rest) fs (Cc K o.dst undef) w
    | .no=>False
  | .e e=>match fs with
   |[]=>False
   | .seq c::fs=>match e with
    | .normal=>Jo n (.c c) fs K w
    | .ret=>Jo n (.e .ret) fs K w
    | .exit id=>Jo n (.e (.exit id)) fs K w
    |_=>False
   | .blk id::fs=>match e with
    | .normal=>Jo n (.e .normal) fs K w
    | .ret=>Jo n (.e .ret) fs K w
    | .exit id'=>bif Nat.beq id' id then Jo n (.e .normal) fs K w else Jo n (.e (.exit id')) fs K w
    |_=>False
   | .lp f::fs=>match e with
    | .normal=>∀a,Kn N K a->f a w
    | .ret=>Jo n (.e .ret) fs K w
    | .exit id=>Jo n (.e (.exit id)) fs K w
    |_=>False
end
section
variable {P:Program} {N:Nat} {Q0:Exit -> Act -> World -> Prop}
theorem Jo.ok:∀(n:Nat) {m:Md} {fs:List Frame} {K:KL} {w:World},Jo P N Q0 n m fs K w->vB P N Q0 m fs K w
 |0,_,_,_,_,h=>h
 |n+1,m,fs,K,w,h=>by
  cases m with
  |c c=>
   cases c with
   |seq x y=>exact WC.seq (Jo.ok n h)
   |region id ops d=>
    cases d with
    |false=>
     have h2:TL P N ops (IQ P Q0 fs) ops.toList K w:=Jo.ok n h
     show WC P N (.region id ops false) (IQ P Q0 fs) K w
     have:ops=ops.toList.toArray:=by simp
     rw [this];rw [this]at h2
     exact WC.region (by simpa using h2)
    |true=>exact h.elim
   |block id x=>exact WC.block (Jo.ok n h)
   |skip=>exact WC.skip' (Jo.ok n h)
   |exit id=>exact WC.exit' (Jo.ok n h)
   |ret=>exact WC.ret' (Jo.ok n h)
   |cond _ _ _=>exact h.elim
   |loop _=>exact h.elim
   |_=>exact h.elim
  |o ops l=>
   cases l with
   |nil=>exact TL.done (Jo.ok n h)
   |cons o rest=>
    simp only [Jo]at h
    split at h
    ·rename_i hg
     split at h
     ·rename_i v hv;exact Yl hg (QX hv) (Jo.ok n h)
     ·exact h.elim
    ·rename_i hg;exact Sk hg (Jo.ok n h)
    ·exact h.elim
  |e e=>
   cases fs with
   |nil=>exact h.elim
   |cons f fs=>
    cases f with
    |seq c=>
     cases e with
     |normal=>exact NX.seq (Jo.ok n h)
     |ret=>exact NX.then_r (Jo.ok n h)
     |exit id=>exact NX.then_e (Jo.ok n h)
     |_=>exact h.elim
    |blk id=>
     cases e with
     |normal=>exact NX.blk_n (Jo.ok n h)
     |ret=>exact NX.blk_r (Jo.ok n h)
     |exit id'=>
      simp only [Jo]at h
      cases hb:Nat.beq id' id with
      |true=>
       rw [hb]at h
       obtain rfl:=Az hb
       exact NX.blk_hit (Jo.ok n h)
      |false=>rw [hb]at h;exact NX.blk_miss hb (Jo.ok n h)
     |_=>exact h.elim
    |lp f=>
     cases e with
     |normal=>exact NX.then_n h
     |ret=>exact NX.then_r (Jo.ok n h)
     |exit id=>exact NX.then_e (Jo.ok n h)
     |_=>exact h.elim
variable {K:KL} {w:World} {fs:List Frame} {ops:Array Oper}
theorem Rc(n:Nat){c:Code}(h:Jo P N Q0 n (.c c) fs K w):WC P N c (IQ P Q0 fs) K w:=Jo.ok (m:=.c c) n h
theorem Ro(n:Nat){l:List Oper}(h:Jo P N Q0 n (.o ops l) fs K w):TL P N ops (IQ P Q0 fs) l K w:=Jo.ok (m:=.o ops l) n h
theorem Re(n:Nat){e:Exit}(h:Jo P N Q0 n (.e e) fs K w):NX N (IQ P Q0 fs) e K w:=Jo.ok (m:=.e e) n h
theorem AE{f:FuncId}{fn:Func}{c:Code}{vs:List Value}{w:World}{R:Ending->World->Prop}
 (hf:P.funcs[f]? =some fn) (hb:fn.body=some c) (hn:fn.ntmps=N) (h:WC P N c (IQ P (bodyPost P fn R) []) (Se 0 vs) w):Calls P f vs.toArray w R:=Zj hf hb hn h
theorem WC.loopD{c:Code}(I:Nat->Act->World->Prop)(m:Nat)(h0:∀a,Kn N K a->I m a w)
 (round:∀m a w,I m a w->c.wp P (IQ P Q0 (.lp (fun a' w'=>∃m',m'<m∧I m' a' w')::fs)) a w):WC P N (.loop c) (IQ P Q0 fs) K w:=WC.loop I m h0 round
theorem TL.cutD{l:List Oper}(k:Nat)(K':KL)(R:World->Prop)(h1:TL P N ops (IQ P Q0 (.lp (fun a' w'=>Kn N K' a'∧R w')::fs)) (l.take k) K w)(h2:∀w',R w'->TL P N ops (IQ P Q0 fs) (l.drop k) K' w'):TL P N ops (IQ P Q0 fs) l K w:=TL.cut k K' R h1 h2
end
section
variable (P:Program) (N:Nat) (ops:Array Oper)
def eM(Q:Exit->Act->World->Prop):Nat->List Oper->KL->World->Prop
 |0=>fun l K w=>TL P N ops Q l K w
 |n+1=>fun l K w=>match l with
  |[]=>False
  |o::rest=>match IM N ops K o with
   | .yes=>match yq K o.op with
    |some v=>eM Q n rest (Cc K o.dst v) w
    |none=>False
   | .skip=>eM Q n rest (Cc K o.dst undef) w
   | .no=>False
def eB(w:World)(Qa:Act->Prop):Nat->List Oper->KL->Prop
 |0=>fun l K=>QL P N ops w Qa l K
 |n+1=>fun l K=>match l with
  |[]=>False
  |o::rest=>match IM N ops K o with
   | .yes=>match yq K o.op with
    |some v=>eB w Qa n rest (Cc K o.dst v)
    |none=>False
   | .skip=>eB w Qa n rest (Cc K o.dst undef)
   | .no=>False
end
section
variable {P:Program} {N:Nat} {ops:Array Oper} {Q:Exit -> Act -> World -> Prop} {Qa:Act -> Prop}
theorem Tr:∀(n:Nat) {l:List Oper} {K:KL} {w:World},eM P N ops Q n l K w->TL P N ops Q l K w
 |0,_,_,_,h=>h
 |n+1,l,K,w,h=>by
  cases l with
  |nil=>exact h.elim
  |cons o rest=>
   simp only [eM]at h
   split at h
   ·rename_i hg
    split at h
    ·rename_i v hv;exact Yl hg (QX hv) (Tr n h)
    ·exact h.elim
   ·rename_i hg;exact Sk hg (Tr n h)
   ·exact h.elim
theorem Qr{w:World}:∀(n:Nat) {l:List Oper} {K:KL},eB P N ops w Qa n l K->QL P N ops w Qa l K
 |0,_,_,h=>h
 |n+1,l,K,h=>by
  cases l with
  |nil=>exact h.elim
  |cons o rest=>
   simp only [eB]at h
   split at h
   ·rename_i hg
    split at h
    ·rename_i v hv;exact Qy hg (QX hv) (Qr n h)
    ·exact h.elim
   ·rename_i hg;exact Qs hg (Qr n h)
   ·exact h.elim
end
end Go.Eng
namespace Go.Eng
open Go Go.RowKit
/-! ## Operations, read off at once -/
def fG(K:KL)(p:Op):Option (Nat×Nat×Nat×Nat):=match p with
 | .fieldAddr t x f=>match DW K x with
  |some (.pointer (some ⟨b,off,none⟩))=>some (t,f,b,off)
  |_=>none
 |_=>none
def VC(K:KL)(p:Op):Option (Nat×Nat×Nat):=match p with
 | .load t x=>match DW K x with
  |some (.pointer (some ⟨b,off,none⟩))=>some (t,b,off)
  |_=>none
 |_=>none
def uU(K:KL)(p:Op):Option (Nat×Nat×Nat×Value):=match p with
 | .store t x y=>match DW K x with
  |some (.pointer (some ⟨b,off,none⟩))=>match DW K y with
   |some v=>some (t,b,off,v)
   |none=>none
  |_=>none
 |_=>none
def oS(K:KL)(p:Op):Option (Nat×Value):=match p with
 | .call ⟨.builtin .len,⟨[x]⟩,⟨[t]⟩⟩=>match DW K x with
  |some v=>some (t,v)
  |none=>none
 |_=>none
def Wy(K:KL)(p:Op):Option (Nat×Value×IntKind×Int):=match p with
 | .indexAddr t x i=>match DW K x with
  |some v=>match DW K i with
   |some (.int k m)=>some (t,v,k,m)
   |_=>none
  |none=>none
 |_=>none
def oQ(K:KL)(p:Op):Option (Nat×List Value):=match p with
 | .call ⟨.value (.func f),xs,_⟩=>match RE K xs.toList with
  |some vs=>some (f,vs)
  |none=>none
 |_=>none
section
variable {P:Program} {N:Nat} {K:KL} {o:Oper} {w:World}
theorem jW{t f b off:Nat}(h:fG K o.op=some (t,f,b,off)):∃x,o.op= .fieldAddr t x f∧DW K x=some (.pointer (some ⟨b,off,none⟩)):=by
 unfold fG at h
 split at h
 ·rename_i t' x f' ho
  split at h
  ·rename_i b' off' hx
   simp only [DE,DI]at h
   obtain⟨rfl,rfl,rfl,rfl⟩:=h
   exact⟨x,ho,hx⟩
  ·cases h
 ·cases h
theorem Th{t b off:Nat}(h:VC K o.op=some (t,b,off)):∃x,o.op= .load t x∧DW K x=some (.pointer (some ⟨b,off,none⟩)):=by
 unfold VC at h
 split at h
 ·rename_i t' x ho
  split at h
  ·rename_i b' off' hx
   simp only [DE,DI]at h
   obtain⟨rfl,rfl,rfl⟩:=h
   exact⟨x,ho,hx⟩
  ·cases h
 ·cases h
theorem Vl{t b off:Nat}{v:Value}(h:uU K o.op=some (t,b,off,v)):∃x y,o.op= .store t x y∧DW K x=some (.pointer (some ⟨b,off,none⟩))∧DW K y=some v:=by
 unfold uU at h
 split at h
 ·rename_i t' x y ho
  split at h
  ·rename_i b' off' hx
   split at h
   ·rename_i v' hy
    simp only [DE,DI]at h
    obtain⟨rfl,rfl,rfl,rfl⟩:=h
    exact⟨x,y,ho,hx,hy⟩
   ·cases h
  ·cases h
 ·cases h
theorem bR{t:Nat}{v:Value}(h:oS K o.op=some (t,v)):∃x,o.op= .call { callee:=.builtin .len,args:=#[x],argTypes:=#[t] }∧DW K x=some v:=by
 unfold oS at h
 split at h
 ·rename_i x t' ho
  split at h
  ·rename_i v' hx
   simp only [DE,DI]at h
   obtain⟨rfl,rfl⟩:=h
   exact⟨x,ho,hx⟩
  ·cases h
 ·cases h
theorem Vb{t:Nat}{v:Value}{k:IntKind}{m:Int}(h:Wy K o.op=some (t,v,k,m)):∃x i,o.op= .indexAddr t x i∧DW K x=some v∧DW K i=some (.int k m):=by
 unfold Wy at h
 split at h
 ·rename_i t' x i ho
  split at h
  ·rename_i v' hx
   split at h
   ·rename_i k' m' hi
    simp only [DE,DI]at h
    obtain⟨rfl,rfl,rfl,rfl⟩:=h
    exact⟨x,i,ho,hx,hi⟩
   ·cases h
  ·cases h
 ·cases h
theorem cS{f:Nat}{vs:List Value}(h:oQ K o.op=some (f,vs)):∃xs ts,o.op= .call { callee:=.value (.func f),args:=xs,argTypes:=ts }∧RE K xs.toList=some vs:=by
 unfold oQ at h
 split at h
 ·rename_i f' xs ts ho
  split at h
  ·rename_i vs' hx
   simp only [DE,DI]at h
   obtain⟨rfl,rfl⟩:=h
   exact⟨xs,ts,ho,hx⟩
  ·cases h
 ·cases h
theorem CK{t f b off fo:Nat}(h:fG K o.op=some (t,f,b,off))(hf:Aw P t f=some fo):Gf P N K o w (.pointer (some ⟨b,off+fo,none⟩)):=by
 obtain⟨x,ho,hx⟩:=jW h;exact SY ho hf hx
theorem Ea{t b off:Nat}{us:List Value}{T:TypeId}{u:Value}(h:VC K o.op=some (t,b,off))(ha:EO P t=some false)(hb:BO w b us T)(hu:us[off]? =some u):Gf P N K o w u:=by
 obtain⟨x,ho,hx⟩:=Th h;exact TB off ho ha hx hb.cells (Bu _).symm hu
theorem GB(j:Nat){t b off o0:Nat}{us:List Value}{u:Value}(h:VC K o.op=some (t,b,off))(ha:EO P t=some false)(hcs:Ab w b o0 us)(hj:off=o0+j)(hu:us[j]? =some u):Gf P N K o w u:=by
 obtain⟨x,ho,hx⟩:=Th h;exact TB j ho ha hx hcs hj hu
theorem Ci{t b:Nat}{us:List Value}{T:TypeId}(h:VC K o.op=some (t,b,0))(ha:EO P t=some true)(hb:BO w b us T)(hn:CE P t=some us.length):Gf P N K o w (.agg us.toArray):=by
 obtain⟨x,ho,hx⟩:=Th h;exact Sz ho ha hx hb.cells hn
theorem FT{t b off:Nat}{us:List Value}(h:VC K o.op=some (t,b,off))(ha:EO P t=some true)(hc:Ab w b off us)(hn:CE P t=some us.length):Gf P N K o w (.agg us.toArray):=by
 obtain⟨x,ho,hx⟩:=Th h;exact Sz ho ha hx hc hn
section
variable {α:Type} {c:EJ α} {xs:List α} {S:Nat -> Prop} {v:Value} {e:TypeId} {B:Nat}
theorem HK{t:Nat}(h:oS K o.op=some (t,v))(hu:P.underlying t=some (.slice e))(hs:AF c w S xs v):Gf P N K o w (.int .i64 xs.length):=by
 obtain⟨x,ho,hx⟩:=bR h;exact kI ho hu hx hs
theorem Hm{t:Nat}(h:oS K o.op=some (t,v))(hu:P.underlying t=some (.slice e))(hs:AC c w B S e xs v):Gf P N K o w (.int .i64 xs.length):=by
 obtain⟨x,ho,hx⟩:=bR h;exact Ur ho hu hx hs
theorem JB{y:α}{t:Nat}{k:IntKind}{m:Int}(h:Wy K o.op=some (t,v,k,m))(hu:P.underlying t=some (.slice e))(hc:CE P e=some c.n)(hs:AF c w S xs v)(hg:AL xs m=some y):
 YE P N K o w (fun u=>∃b off us,u= .pointer (some ⟨b,off,none⟩)∧S b∧c.rep w S y us∧Ab w b off us):=by
 obtain⟨x,i,ho,hx,hi⟩:=Vb h;exact YO ho hu hc hx hi hs hg
theorem Lp{y:α}{t:Nat}{k:IntKind}{m:Int}(h:Wy K o.op=some (t,v,k,m))(hu:P.underlying t=some (.slice e))(hc:CE P e=some c.n)(hs:AC c w B S e xs v)(hg:AL xs m=some y):
 YE P N K o w (fun u=>∃g us,u= .pointer (some ⟨g,0+m.toNat*c.n,none⟩)∧v.ownBlock=some g∧c.rep w S y us∧Ab w g (0+m.toNat*c.n) us):=by
 obtain⟨x,i,ho,hx,hi⟩:=Vb h;exact PR ho hu hc hx hi hs hg
end
theorem GO{f:Nat}{vs:List Value}{R:Value->World->Prop}(h:oQ K o.op=some (f,vs))(hf:BQ P f=true)(hc:Calls P f vs.toArray w (Fu R)):IP P N K o w R:=by
 obtain⟨xs,ts,ho,hx⟩:=cS h;exact bF ho hf hx hc
theorem MT{f:Nat}{vs:List Value}{v:Value}(h:oQ K o.op=some (f,vs))(hf:BQ P f=true)(hc:∀w',AU w w'->Calls P f vs.toArray w' (Fu fun u w''=>u=v∧AU w' w'')):vJ P N K o w v:=by
 obtain⟨xs,ts,ho,hx⟩:=cS h;exact Yr ho hf hx hc
theorem DQ{t b off:Nat}{v:Value}{cur:List Value}{e:TypeId}(h:uU K o.op=some (t,b,off,v))(hb:BO w b cur e)(hn:CE P t=some v.cells.toList.length)
 (h1:v.cells.toList.all Value.oneCell'=true) (hfit:Nat.ble (off+v.cells.toList.length) cur.length=true):
 IP P N K o w (fun _ w'=>JM b w w'∧BO w' b (cur.take off++v.cells.toList++cur.drop (off+v.cells.toList.length)) e):=by
 obtain⟨x,y,ho,hx,hy⟩:=Vl h;exact Sn ho hx hy hb hn h1 hfit
/-! ## Worlds, in fewer words -/
theorem Et{w a b:World}(h:AU w a)(k:AU a b):AU w b∧a.heap.size<=b.heap.size:=⟨AU.trans h k,k.size⟩
theorem Df{p:Nat->Prop}{w a b:World}(h:BH p w a)(k:AU a b):BH p w b∧a.heap.size<=b.heap.size:=⟨BH.ext h k,k.size⟩
theorem Kn.sub{K':KL}{a:Act}(h:Kn N K a)(e:K'.map (fun p=>kl K p.1)=K'.map (fun p=>some p.2)):Kn N K' a:=by
 refine h.weaken ?_
 induction K' with
 |nil=>trivial
 |cons p K' ih=>
  simp only [Eh,List.cons.injEq]at e
  exact⟨e.1,ih e.2⟩
theorem VE{α:Type}{x y:α}(h:some x=some y):x=y:=AM h
theorem EI{α:Type}{x:α}{p:Prop}(h:none=some x):p:=by cases h
theorem Wc{α:Type}{c:Operand}{x y:Code}{t:Bool}{A B:Option α}{r:α}{Q:Exit->Act->World->Prop}(hc:DW K c=some (.bool t))(hF:(bif t then A else B)=some r)(ht:A=some r->WC P N x Q K w)(hf:B=some r->WC P N y Q K w):WC P N (.cond c x y) Q K w:=
 WC.cond hc (fun h=>ht (Qf h hF)) (fun h=>hf (QU h hF))
def aD(K:KL):List ResultVar->Option (List Value)
 |[]=>some []
 | .tmp t::rs=>match kl K t with
  |some v=>match aD K rs with
   |some vs=>some (v::vs)
   |none=>none
  |none=>none
 | .cell _ _::_=>none
theorem WH:∀{rs:List ResultVar} {vs:List Value},aD K rs=some vs->Sy P K w rs vs
 |[],vs,h=>by obtain rfl:=AM h;trivial
 | .tmp t::rs,vs,h=>by
  unfold aD at h
  split at h
  ·rename_i v h1
   split at h
   ·rename_i vs' h2
    obtain rfl:=AM h
    exact⟨h1,WH h2⟩
   ·cases h
  ·cases h
 | .cell _ _::_,vs,h=>by cases h
theorem Ne{fn:Func}{rs vs R}(hr:fn.results=List.toArray rs)(ho:aD K rs=some vs)(hR:R (.returned (IT vs)) w):NX N (bodyPost P fn R) .ret K w:=NX.end hr (WH ho) hR
end
end Go.Eng
namespace Go.Eng
open Go Go.RowKit
theorem Eu{w a c:World}{b:Nat}(h:AU w a)(hu:JM b a c)(hb:w.heap.size<=b:=by omega):AU w c∧c.heap.size=a.heap.size:=⟨Below.trans h (JM.below hu hb),hu.size⟩
theorem WT{p:Nat->Prop}{w a c:World}{b:Nat}(h:BH p w a)(hu:JM b a c)(hb:p b∨w.heap.size<=b):BH p w c∧c.heap.size=a.heap.size:=⟨BH.upd h hu hb,hu.size⟩
/-! ## What keeps slices apart -/
abbrev Nb(v:Value)(b:Nat):Prop:=∀g,v.ownBlock=some g->g≠b
abbrev Ns(v:Value)(lo hi:Nat):Prop:=∀g,v.ownBlock=some g->g<lo∨hi<=g
abbrev No(v u:Value):Prop:=∀g q,v.ownBlock=some g->u.ownBlock=some q->g≠q
abbrev Bd(v:Value)(lo hi:Nat):Prop:=∀q,v.ownBlock=some q->lo<=q∧q<hi
section
variable {v v' u:Value} {b lo hi lo' hi':Nat} {w w':World}
theorem Nb.of(h:Bd v lo hi)(k:b<lo∨hi<=b:=by omega):Nb v b:=fun g hg=>by have:=h g hg;omega
theorem Ns.of(h:Bd v lo hi)(k:hi'<=lo∨hi<=lo':=by omega):Ns v lo' hi':=fun g hg=>by have:=h g hg;omega
theorem No.of(h:Bd v lo hi)(h':Bd u lo' hi')(k:hi<=lo'∨hi'<=lo:=by omega):No v u:=fun g q hg hq=>by have:=h g hg;have:=h' q hq;omega
theorem No.symm(h:No v u):No u v:=fun g q hg hq e=>h q g hq hg e.symm
theorem Gb(h:Ah w w' v v')(k:Nb v b)(hb:b<w.heap.size:=by omega):Nb v' b:=Ah.sepP (p:=fun g=>g≠b) h k (fun g hg=>by omega)
theorem Gs(h:Ah w w' v v')(k:Ns v lo hi)(hb:hi<=w.heap.size:=by omega):Ns v' lo hi:=Ah.sepP (p:=fun g=>g<lo∨hi<=g) h k (fun g hg=>by omega)
theorem Gn(h:Ah w w' v v')(k:No v u)(hb:Bd u lo hi)(hh:hi<=w.heap.size:=by omega):No v' u:=fun g q hg hq=>
 Ah.sepP (p:=fun g=>∀q,u.ownBlock=some q->g≠q) h (fun g hg q hq=>k g q hg hq) (fun g hg q hq=>by have:=hb q hq;omega) g hg q hq
theorem Ge(h:AU w w'){w2:World}(hg:Ah w' w2 v v')(k:Bd v lo hi)(hl:w.heap.size<=lo:=by omega):AU w w2∧w'.heap.size<=w2.heap.size:=⟨Below.trans h (Ah.low hg (fun g hg=>by have:=k g hg;omega) h.size),hg.1.size⟩
theorem HZ{α:Type}{c:EJ α}{B:Nat}{S:Nat->Prop}{e:TypeId}{zs:List α}(h:Ah w w' v v')(ho:AC c w' B S e zs v')(k:Bd v lo hi)(hl:lo<=w.heap.size:=by omega)(hh:hi<=w'.heap.size:=by omega):Bd v' lo w'.heap.size:=Ah.bd h ho k hl hh
end
end Go.Eng
namespace Go.Eng
open Go Go.RowKit
theorem AF.oh{α:Type}{c:EJ α}{w w':World}{lo H:Nat}{xs:List α}{v:Value}(h:AF c w (Iv lo H) xs v)(hH:H<=w.heap.size)(he:AU w w'):AF c w' (Iv lo H) xs v:=h.old he hH
theorem AF.ph{α:Type}{c:EJ α}{w w':World}{H:Nat}{xs:List α}{v:Value}(h:AF c w (Iv 0 H) xs v)(hH:H<=w.heap.size)(he:AU w w'):AF c w' (Iv 0 w'.heap.size) xs v:=(h.old he hH).wide (BN _) (Ar hH he.size)
end Go.Eng
namespace Go.Eng
open Go Go.RowKit
/-! ## Regions whose order is drawn, with guards -/
section
variable {P:Program} {N:Nat} {ops:Array Oper} {Q:Exit -> Act -> World -> Prop} {n:Nat} {K:KL} {w w0:World} {f:Nat} {listed:Array Bool} {p:Nat -> Prop}
theorem RA{o:Oper}{g:Gd}(h:IM N ops K o=g)(hg:g≠ .no):∀t,o.dst=some t->Nat.blt t N=true:=EC.h (Nj h hg)
theorem nV{o:Oper}{v:Value}(i:Nat)(hh:Fo ops n=true)(hi:ops[i]? =some o)(hc:(Nat.blt i n&&Region.free .any ops listed i&&(Region.ready .any ops listed).contains i)=true)(h0:IM N ops K o= .yes)
 (h:Gf P N K o w0 v) (k:HL P N ops n (noPan Q) w0 f (listed.setIfInBounds i true) (Cc K o.dst v) w):HL P N ops n (noPan Q) w0 (f+1) listed K w:=by
 intro inv hx a hK
 obtain⟨hs,hn,ht⟩:=Fo.spec hh
 simp only [AD]at hc
 have hin:i<n:=by have h2:=hc.1.1;simp [Nat.blt]at h2;omega
 have hr:i∈Region.ready .any ops listed:=by simpa using hc.2
 refine Ek.first hi hin hn (FX hs) ht (fun c a w h=>h.elim) f listed a w inv (Region.free_spec hi hc.1.2) hr ?_ hx (k (inv.set hr hin) hx _ (hK.put (RA h0 (by simp))))
 exact .inl ⟨IV h0 hK,fun w' hw'=>h a hK w' hw'⟩
theorem yW{o:Oper}{Ψ:Value->Prop}(i:Nat)(hh:Fo ops n=true)(hi:ops[i]? =some o)(hc:(Nat.blt i n&&Region.free .any ops listed i&&(Region.ready .any ops listed).contains i)=true)(h0:IM N ops K o= .yes)
 (h:YE P N K o w0 Ψ) (k:∀v,Ψ v->HL P N ops n (noPan Q) w0 f (listed.setIfInBounds i true) (Cc K o.dst v) w):HL P N ops n (noPan Q) w0 (f+1) listed K w:=by
 obtain⟨v,h1,h2⟩:=h;exact nV i hh hi hc h0 h1 (k v h2)
theorem HLk{o:Oper}(i:Nat)(hh:Fo ops n=true)(hi:ops[i]? =some o)(hc:(Nat.blt i n&&Region.free .any ops listed i&&(Region.ready .any ops listed).contains i)=true)(h0:IM N ops K o= .skip)
 (k:HL P N ops n (noPan Q) w0 f (listed.setIfInBounds i true) (Cc K o.dst undef) w):HL P N ops n (noPan Q) w0 (f+1) listed K w:=by
 intro inv hx a hK
 obtain⟨hs,hn,ht⟩:=Fo.spec hh
 simp only [AD]at hc
 have hin:i<n:=by have h2:=hc.1.1;simp [Nat.blt]at h2;omega
 have hr:i∈Region.ready .any ops listed:=by simpa using hc.2
 refine Ek.first hi hin hn (FX hs) ht (fun c a w h=>h.elim) f listed a w inv (Region.free_spec hi hc.1.2) hr ?_ hx (k (inv.set hr hin) hx _ (hK.put (RA h0 (by simp))))
 exact .inr ⟨RO h0 hK,rfl⟩
theorem HLe{o:Oper}{R:Value->World->Prop}(i:Nat)(hi:ops[i]? =some o)(hin:Nat.blt i n=true)(hr:Region.ready .any ops listed=[i])(h0:IM N ops K o= .yes)
 (h:IP P N K o w R) (k:∀v w',R v w'->AU w0 w'∧HL P N ops n (noPan Q) w0 f (listed.setIfInBounds i true) (Cc K o.dst v) w'):HL P N ops n (noPan Q) w0 (f+1) listed K w:=by
 intro inv hx a hK
 have hin':i<n:=by have h2:=hin;simp [Nat.blt]at h2;omega
 have hri:i∈Region.ready .any ops listed:=by rw [hr];simp
 refine⟨fun h0=>(by rw [h0]at hr;cases hr),fun j hj=>?_⟩
 rw [hr]at hj
 have hji:j=i:=by simpa using hj
 subst hji
 unfold wpOp
 simp only [hi]
 rw [BE (IV h0 hK)]
 refine .inl (h a hK _ _ fun u w' hR=>?_)
 obtain⟨h1,h2⟩:=k u w' hR
 exact⟨fun _=>h1,h2 (inv.set hri hin') h1 _ (hK.put (RA h0 (by simp)))⟩
theorem HBe{o:Oper}{R:Value->World->Prop}(i:Nat)(hi:ops[i]? =some o)(hin:Nat.blt i n=true)(hr:(Region.ready .any ops listed).contains i=true)(h0:IM N ops K o= .yes)
 (h:IP P N K o w R) (k:∀v w',R v w'->AU w0 w'∧HL P N ops n (noPan Q) w0 f (listed.setIfInBounds i true) (Cc K o.dst v) w'):HB P N ops n (noPan Q) w0 f listed K w i:=by
 intro inv hx a hK
 have hin':i<n:=by have h2:=hin;simp [Nat.blt]at h2;omega
 have hri:i∈Region.ready .any ops listed:=by simpa using hr
 unfold wpOp
 simp only [hi]
 rw [BE (IV h0 hK)]
 refine .inl (h a hK _ _ fun u w' hR=>?_)
 obtain⟨h1,h2⟩:=k u w' hR
 exact⟨fun _=>h1,h2 (inv.set hri hin') h1 _ (hK.put (RA h0 (by simp)))⟩
theorem WC.heldD{id:Nat}{l:List Oper}(n:Nat)(hm:P.follows .mixedOrders=true)(hh:Fo l.toArray n=true)
 (h:∀w',AU w w'->Fo l.toArray n=true->HL P N l.toArray n (noPan Q) w' l.length (Array.replicate l.length false) K w'):WC P N (.region id l.toArray true) Q K w:=WC.held n hm fun w' hx=>h w' hx hh
def gH(ops:Array Oper)(n:Nat):List Nat->Array Bool->Bool
 |[],_=>true
 |i::is,listed=>Nat.blt i n&&Region.free .any ops listed i&&(Region.ready .any ops listed).contains i&&gH ops n is (listed.setIfInBounds i true)
end
section
variable (P:Program) (N:Nat) (ops:Array Oper) (n:Nat) (Q:Exit -> Act -> World -> Prop) (w0:World)
def bU:List Nat->Nat->Array Bool->KL->World->Prop
 |[]=>fun f listed K w=>HL P N ops n (noPan Q) w0 f listed K w
 |i::is=>fun f listed K w=>match f with
  |0=>False
  |f+1=>match ops[i]? with
   |none=>False
   |some o=>match IM N ops K o with
    | .yes=>match yq K o.op with
     |some v=>bU is f (listed.setIfInBounds i true) (Cc K o.dst v) w
     |none=>False
    | .skip=>bU is f (listed.setIfInBounds i true) (Cc K o.dst undef) w
    | .no=>False
end
section
variable {P:Program} {N:Nat} {ops:Array Oper} {Q:Exit -> Act -> World -> Prop} {n:Nat} {w w0:World}
theorem Hr(hh:Fo ops n=true):∀(is:List Nat) {f:Nat} {listed:Array Bool} {K:KL},gH ops n is listed=true->bU P N ops n Q w0 is f listed K w->HL P N ops n (noPan Q) w0 f listed K w
 |[],_,_,_,_,h=>h
 |i::is,0,listed,K,_,h=>h.elim
 |i::is,f+1,listed,K,hc,h=>by
  simp only [gH,AD]at hc
  have hc':(Nat.blt i n&&Region.free .any ops listed i&&(Region.ready .any ops listed).contains i)=true:=by simp only [AD];exact hc.1
  simp only [bU]at h
  split at h
  ·exact h.elim
  ·rename_i o hi
   split at h
   ·rename_i hg
    split at h
    ·rename_i v hv;exact nV i hh hi hc' hg (QX hv) (Hr hh is hc.2 h)
    ·exact h.elim
   ·rename_i hg;exact HLk i hh hi hc' hg (Hr hh is hc.2 h)
   ·exact h.elim
end
end Go.Eng
namespace Go.Eng
open Go Go.RowKit
/-! ## Structs of plain fields, compared -/
def dD(u v:Value):Option Bool:=match u with
 | .int k a=>match v with
  | .int k' b=>bif decide (k=k')then some (a==b)else none
  |_=>none
 | .bool a=>match v with
  | .bool b=>some (a==b)
  |_=>none
 | .string a=>match v with
  | .string b=>some (a.toList==b.toList)
  |_=>none
 |_=>none
def Kb:List Value->List Value->Option Bool
 |[],[]=>some true
 |u::us,v::vs=>match us with
  |[]=>match vs with
   |[]=>dD u v
   |_=>none
  |_::_=>match dD u v with
   |some r=>match Kb us vs with
    |some q=>some (r&&q)
    |none=>none
   |none=>none
 |_,_=>none
def pY(P:Program):List Field->Nat->Bool
 |[],_=>true
 |f::fs,i=>f.name != "_" &&Nat.beq f.offset i&&(match P.underlying f.type with
  |some (.int _)=>true
  |some .bool=>true
  |some .string=>true
  |_=>false)&&pY P fs (i+1)
def gD(P:Program)(t:Nat)(n:Nat):Bool:=match P.underlying t with
 |some (.struct fs)=>pY P fs.toList 0&&Nat.beq fs.size n&& !P.stoodInHeld t&& !P.eqGuardType P.depth t
 |_=>false
section
variable {P:Program} {N:Nat} {K:KL} {o:Oper} {w:World}
theorem Wd{d t:Nat}{u v:Value}{r:Bool}(h:dD u v=some r)(ht:(match P.underlying t with
 |some (.int _)=>true
 |some .bool=>true
 |some .string=>true
 |_=>false)=true) (hty:∀k,P.underlying t=some (.int k)->∃k' a,u= .int k' a) (htb:P.underlying t=some .bool->∃a,u= .bool a) (hts:P.underlying t=some .string->∃a,u= .string a):
 (Op.equalIn (d+1) t u v).run P w= .ok r w:=by
 split at ht
 ·rename_i k hu
  obtain⟨k',a,rfl⟩:=hty k hu
  unfold dD at h
  cases v<;>simp only [reduceCtorEq]at h
  rename_i k2 b
  by_cases hk:k'=k2
  ·subst hk
   rw [AX rfl,cond_true]at h
   obtain rfl:=AM h
   exact run_equalIn_int w d t k' k a b hu
  ·rw [Aa hk]at h;cases h
 ·rename_i hu
  obtain⟨a,rfl⟩:=htb hu
  unfold dD at h
  cases v<;>simp only [reduceCtorEq]at h
  obtain rfl:=AM h
  exact run_equalIn_bool' w d t _ _ hu
 ·rename_i hu
  obtain⟨a,rfl⟩:=hts hu
  unfold dD at h
  cases v<;>simp only [reduceCtorEq]at h
  obtain rfl:=AM h
  exact run_equalIn_string w d t _ _ hu
 ·cases ht
def Wv(P:Program):List Field->List Value->Bool
 |[],[]=>true
 |f::fs,u::us=>(match P.underlying f.type with
  |some (.int _)=>match u with
   | .int _ _=>true
   |_=>false
  |some .bool=>match u with
   | .bool _=>true
   |_=>false
  |some .string=>match u with
   | .string _=>true
   |_=>false
  |_=>false)&&Wv P fs us
 |_,_=>false
theorem JU{d:Nat}{xs ys:Array Value}:∀(fs:List Field) (i:Nat) (us vs:List Value) (r:Bool),pY P fs i=true->Wv P fs us=true->xs.toList.drop i=us->ys.toList.drop i=vs->Kb us vs=some r->(Op.eqFields (d+1) xs ys fs).run P w= .ok r w
 |[],i,us,vs,r,_,h2,_,_,h5=>by
  cases us with
  |nil=>
   cases vs with
   |nil=>simp [Kb]at h5;subst h5;simp [Op.eqFields]
   |cons _ _=>simp [Kb]at h5
  |cons _ _=>simp [Wv]at h2
 |f::fs,i,us,vs,r,h1,h2,h3,h4,h5=>by
  cases us with
  |nil=>simp [Wv]at h2
  |cons u us=>
   cases vs with
   |nil=>cases us<;>simp [Kb]at h5
   |cons v vs=>
    simp only [pY,AD,Cp,ne_eq]at h1
    obtain⟨⟨⟨hn,ho⟩,ht⟩,h1⟩:=h1
    have ho:f.offset=i:=Az ho
    simp only [Wv,AD]at h2
    obtain⟨hc,h2⟩:=h2
    have hxu:xs[f.offset]? =some u:=by
     rw [ho,←EU]
     have:=congrArg (fun l:List Value=>l[0]?) h3
     simpa using this
    have hyv:ys[f.offset]? =some v:=by
     rw [ho,←EU]
     have:=congrArg (fun l:List Value=>l[0]?) h4
     simpa using this
    have ha:EO P f.type=some false:=by
     unfold EO
     split at ht<;>first|(rename_i hu;rw [hu])|cases ht
    have e3:xs.toList.drop (i+1)=us:=by
     rw [←List.drop_drop,h3];rfl
    have e4:ys.toList.drop (i+1)=vs:=by
     rw [←List.drop_drop,h4];rfl
    have key:∀r0,dD u v=some r0->(Op.equalIn (d+1) f.type u v).run P w= .ok r0 w:=by
     intro r0 hr0
     refine Wd hr0 ht ?_ ?_ ?_
     ·intro k hu;rw [hu]at hc;cases u<;>simp at hc;exact⟨_,_,rfl⟩
     ·intro hu;rw [hu]at hc;cases u<;>simp at hc;exact⟨_,rfl⟩
     ·intro hu;rw [hu]at hc;cases u<;>simp at hc;exact⟨_,rfl⟩
    have step:∀r0 q,dD u v=some r0->(Op.eqFields (d+1) xs ys fs).run P w= .ok q w->(Op.eqFields (d+1) xs ys (f::fs)).run P w= .ok (r0&&q) w:=by
     intro r0 q hr0 hq
     have hk:=key r0 hr0
     simp only [Op.eqFields]
     rw [BE hn]
     simp only [CI,part,JX ha,Cm,Bool.false_eq_true,if_false,hxu,hyv,Dg,hk]
     cases r0
     ·simp
     ·simp [hq]
    cases us with
    |nil=>
     cases vs with
     |nil=>
      simp only [Kb]at h5
      have:=step r true h5 (JU fs (i+1) [] [] true h1 h2 e3 e4 rfl)
      simpa using this
     |cons _ _=>simp [Kb]at h5
    |cons u2 us2=>
     simp only [Kb]at h5
     split at h5
     ·rename_i r0 hr0
      split at h5
      ·rename_i q hq
       obtain rfl:=AM h5
       exact step r0 q hr0 (JU fs (i+1) _ _ q h1 h2 e3 e4 hq)
      ·cases h5
     ·cases h5
def fC(P:Program)(t:Nat)(us:List Value):Bool:=match P.underlying t with
 |some (.struct fs)=>Wv P fs.toList us
 |_=>false
theorem iC{t n:Nat}{us vs:List Value}{r:Bool}(hB:gD P t n=true)(hC:fC P t us=true)(h:Kb us vs=some r):
 (Op.equalIn 10000 t (.agg us.toArray) (.agg vs.toArray)).run P w= .ok r w∧P.eqGuardType P.depth t=false:=by
 unfold gD at hB
 unfold fC at hC
 split at hB
 ·rename_i fs hu
  rw [hu]at hC
  simp only [AD,BY]at hB
  obtain⟨⟨⟨h1,h2⟩,h3⟩,h4⟩:=hB
  have hf:P.fieldsOf t=fs:=by unfold Program.fieldsOf;rw [hu]
  refine⟨?_,h4⟩
  rw [show(10000:Nat)=9998+1+1 from rfl,run_equalIn_struct w _ t _ _ (by rw [hf];exact hu) h3,hf]
  exact JU fs.toList 0 us vs r h1 hC (by simp) (by simp) h
 ·cases hB
theorem vC{t x y u n us vs r}(ho:o.op= .binOp .neq t x y u)(hx:DW K x=some (.agg (List.toArray us)))(hy:DW K y=some (.agg (List.toArray vs)))(hB:gD P t n=true)(hC:fC P t us=true)(h:Kb us vs=some r):Gf P N K o w (.bool (!r)):=by
 intro a hK w' _
 obtain⟨h1,h2⟩:=iC (w:=w') hB hC h
 have h3:=run_eqGuard_agg (P:=P) w' .neq t x y us.toArray vs.toArray h2
 have h4:(binOp .neq t (.agg us.toArray) (.agg vs.toArray)).run P w'= .ok (.bool (!r)) w':=by rw [run_neq_struct,h1];rfl
 simp only [execOp,ho,hK.ev hx,hK.ev hy,CI,h3,Cm,h4,Dg]
end
end Go.Eng
namespace Go.Eng
open Go Go.RowKit
/-! ## Slices of slices of the call's own, each apart from the others -/
theorem AC.slp{α:Type}{c:EJ α}{w:World}{B:Nat}{S S':Nat->Prop}{e:TypeId}{xs:List α}{v:Value}[Es c](h:AC c w B S e xs v)(hb:∀g,v.ownBlock=some g->S' g):AF c w S' xs v:=by
 obtain⟨cs,h0,h3⟩:=h
 have h1:=h0
 obtain⟨hl,⟨rfl,hn⟩|⟨g,cap,cur,rfl,_,hh,h5,h6,h7,h8⟩⟩:=h1
 ·have:xs=[]:=BX hn
  subst this;exact AF.nil _ _ _
 ·refine⟨some ⟨g,0,none⟩,cap,rfl,⟨h5,fun h=>by cases h⟩,by simpa [maxLen] using h6,fun hpos=>⟨g,0,rfl,hb g rfl,fun i x hx=>⟨_,Es.any (h3 i x hx),fun j u hu=>?_⟩⟩⟩
  have hjn:j<c.n:=by
   have:=(AK.1 hu).1
   simp [Ba]at this;omega
  rw [CZ hjn]at hu
  have:=h0.cells (g:=g) rfl _ _ hu
  rw [EM]at this
  rw [show 0+i*c.n+j=0+(i*c.n+j) by omega];exact⟨this,by simp [World.frozen?,hh]⟩
def own2{α:Type}(c:EJ α)(w:World)(B hi:Nat)(e1 e2:TypeId)(xss:List (List α))(v:Value)(vs:List Value):Prop:=
 w.ownsRow B e1 1 v xss.length vs∧(∀(i:Nat) (xs:List α) (u:Value),xss[i]? =some xs->vs[i]? =some u->AC c w B (Iv 0 0) e2 xs u∧Bd u B hi∧No v u)∧(∀(i j:Nat) (u u':Value),i≠j->vs[i]? =some u->vs[j]? =some u'->No u u')
def ZH{α:Type}(c:EJ α)(w:World)(B hi:Nat)(e1 e2:TypeId)(xss:List (List α))(v:Value)(vs:List Value)(k:Nat)(u0:Value):Prop:=
 w.ownsRow B e1 1 v xss.length vs∧(∀(i:Nat) (xs:List α) (u:Value),i≠k->xss[i]? =some xs->vs[i]? =some u->AC c w B (Iv 0 0) e2 xs u∧Bd u B hi∧No v u∧No u0 u)∧(∀(i j:Nat) (u u':Value),i≠k->j≠k->i≠j->vs[i]? =some u->vs[j]? =some u'->No u u')∧No v u0∧Bd u0 B hi
theorem ownsRow.keep{w w':World}{B n:Nat}{e:TypeId}{v:Value}{m:Nat}{cs:List Value}(h:w.ownsRow B e n v m cs)(hg:∀g,v.ownBlock=some g->w'.heap[g]? =w.heap[g]?):w'.ownsRow B e n v m cs:=by
 obtain⟨h1,h2⟩:=h
 refine⟨h1,?_⟩
 rcases h2 with h2|⟨g,cap,cur,rfl,hb,hh,rest⟩
 ·exact .inl h2
 ·exact .inr ⟨g,cap,cur,rfl,hb,(hg g rfl).trans hh,rest⟩
section
variable {α:Type} {c:EJ α} [Es c] {w w':World} {B hi:Nat} {e1 e2:TypeId} {xss:List (List α)} {v:Value} {vs:List Value}
theorem own2.keep(h:own2 c w B hi e1 e2 xss v vs)(h1:∀g,v.ownBlock=some g->w'.heap[g]? =w.heap[g]?)(h2:∀k,B<=k->k<hi->w'.heap[k]? =w.heap[k]?):own2 c w' B hi e1 e2 xss v vs:=by
 obtain⟨a,b,d⟩:=h
 refine⟨ownsRow.keep a h1,fun i xs u hx hu=>?_,d⟩
 obtain⟨p,q,r⟩:=b i xs u hx hu
 exact⟨p.keep (fun g hg=>h2 g (q g hg).1 (q g hg).2) (fun _ h=>h) (fun k h=>absurd h.2 (AV k)),q,r⟩
theorem own2.blk(h:own2 c w B hi e1 e2 xss v vs):Bd v B w.heap.size:=h.1.lt
theorem own2.ext(h:own2 c w B hi e1 e2 xss v vs)(he:AU w w')(hle:hi<=w.heap.size):own2 c w' B hi e1 e2 xss v vs:=
 h.keep (fun g hg=>he.block g (h.blk g hg).2) (fun k _ h=>he.block k (by omega))
theorem own2.upd{b:Nat}(h:own2 c w B hi e1 e2 xss v vs)(hu:JM b w w')(hne:Nb v b)(hb:b<B∨hi<=b:=by omega):own2 c w' B hi e1 e2 xss v vs:=
 h.keep (fun g hg=>hu.block g (hne g hg)) (fun k h1 h2=>hu.block k (by omega))
theorem own2.wide{hi':Nat}(h:own2 c w B hi e1 e2 xss v vs)(hle:hi<=hi':=by omega):own2 c w B hi' e1 e2 xss v vs:=by
 obtain⟨a,b,d⟩:=h
 refine⟨a,fun i xs u hx hu=>?_,d⟩
 obtain⟨p,q,r⟩:=b i xs u hx hu
 exact⟨p,fun g hg=>by have:=q g hg;omega,r⟩
theorem own2.but{p:Nat->Prop}(h:own2 c w B hi e1 e2 xss v vs)(hb:BH p w w')(hne:∀k,p k->∀g,v.ownBlock=some g->k≠g)(hle:hi<=w.heap.size)(hs:∀k,p k->k<B∨hi<=k):own2 c w' B hi e1 e2 xss v vs:=
 h.keep (fun g hg=>hb.block g (h.blk g hg).2 (fun e=>hne g e g hg rfl)) (fun k h1 h2=>hb.block k (by omega) (fun e=>by have:=hs k e;omega))
theorem Ah.own2{t t':Value}(hg:Ah w w' t t')(h:own2 c w B hi e1 e2 xss v vs)(hne:No t v)(hle:hi<=w.heap.size)(hs:∀g,t.ownBlock=some g->g<B∨hi<=g):own2 c w' B hi e1 e2 xss v vs:=
 h.keep (fun g hv=>hg.1.block g (h.blk g hv).2 (fun e=>hne g g e.symm hv rfl)) (fun k h1 h2=>hg.1.block k (by omega) (fun e=>by have:=hs k e.symm;omega))
theorem iH{cs:List Value}{i:Nat}{u:Value}(h:cs[i]? =some u):Ba cs 1 i=[u]:=by
 apply Ce
 intro q
 by_cases hq:q<1
 ·obtain rfl:q=0:=by omega
  rw [CZ hq];simpa using h
 ·rw [Ay (by simp [Ba];omega),Ay (by simp;omega)]
theorem own2.r(h:own2 c w B hi e1 e2 xss v vs):AC (Hh c) w B (SX B hi v) e1 xss v:=by
 obtain⟨a,b,d⟩:=h
 refine⟨vs,a,fun i x hx=>?_⟩
 have hi':i<vs.length:=by
  have:=(AK.1 hx).1
  rw [a.1];omega
 obtain⟨p,q,r⟩:=b i x _ hx (AH hi')
 have e:Ba vs (Hh c).n i=[vs[i]]:=iH (AH hi')
 rw [e]
 exact⟨_,rfl,p.slp fun g hg=>⟨(q g hg).1,(q g hg).2,fun e=>r g g e hg rfl⟩⟩
theorem own2.sub{m:Int}{xs:List α}{u:Value}(h:own2 c w B hi e1 e2 xss v vs)(hy:AL xss m=some xs)(hu:vs[m.toNat]? =some u):AC c w B (Iv 0 0) e2 xs u∧Bd u B hi∧No v u:=h.2.1 _ _ _ (HH hy).2.2 hu
theorem own2.at{m:Int}{xs:List α}{g:Nat}{us:List Value}(h:own2 c w B hi e1 e2 xss v vs)(hy:AL xss m=some xs)(hg:v.ownBlock=some g)(hl:us.length=1)(hcl:Ab w g (0+m.toNat*(Hh c).n) us):∃u,us=[u]∧vs[m.toNat]? =some u:=by
 obtain⟨u,rfl⟩:=FA.1 hl
 refine⟨u,rfl,?_⟩
 have hlt:m.toNat<vs.length:=by
  have:=(AK.1 (HH hy).2.2).1
  rw [h.1.1];omega
 have h1:=h.1.cells hg m.toNat _ (AH hlt)
 have h2:=(hcl 0 u rfl).1
 rw [EM]at h1
 have e:0+m.toNat*(Hh c).n+0=0+m.toNat:=by show 0+m.toNat*1+0=0+m.toNat;omega
 rw [e,h1]at h2
 rw [AH hlt];exact h2
theorem own2.grew{m:Nat}{u u':Value}(h:own2 c w B hi e1 e2 xss v vs)(hu:vs[m]? =some u)(hbu:Bd u B hi)(hvu:No v u)(hg:Ah w w' u u')(hle:hi<=w.heap.size)(hB:B<=w.heap.size)(hlt:∀g,u'.ownBlock=some g->g<w'.heap.size):ZH c w' B w'.heap.size e1 e2 xss v vs m u':=by
 obtain⟨a,b,d⟩:=h
 have hsz:=hg.1.size
 have hav:∀g,v.ownBlock=some g->w'.heap[g]? =w.heap[g]?:=fun g hv=>hg.1.block g (a.lt g hv).2 (fun e=>hvu g g hv e.symm rfl)
 refine⟨ownsRow.keep a hav,fun i xs t hi' hx ht=>?_,fun i j t t' _ _ hij ht ht'=>d i j t t' hij ht ht',?_,?_⟩
 ·obtain⟨p,q,r⟩:=b i xs t hx ht
  have hn:No u t:=d m i u t (fun e=>hi' e.symm) hu ht
  refine⟨p.keep (fun g hg2=>hg.1.block g (by have:=q g hg2;omega) (fun e=>hn g g e.symm hg2 rfl)) (fun _ h=>h) (fun k h=>absurd h.2 (AV k)),fun g hg2=>by have:=q g hg2;omega,r,fun g q2 hg2 hq2=>?_⟩
  rcases hg.2 g hg2 with h1|h1
  ·exact hn g q2 h1 hq2
  ·have:=q q2 hq2;omega
 ·intro g q2 hg2 hq2
  rcases hg.2 q2 hq2 with h1|h1
  ·exact hvu g q2 hg2 h1
  ·have:=a.lt g hg2;omega
 ·intro g hg2
  have:=hlt g hg2
  rcases hg.2 g hg2 with h1|h1
  ·have:=hbu g h1;omega
  ·omega
end
section
variable {P:Program} {N:Nat} {α:Type} {c:EJ α} [Es c] {w:World} {B hi:Nat} {e1 e2:TypeId} {xss:List (List α)} {v:Value} {vs:List Value} {o:Oper} {K:KL}
theorem xQ{t g m off:Nat}{u:Value}{zs:List α}(h:uU K o.op=some (t,g,off,u))(hoff:off=0+m*(Hh c).n)(hg:v.ownBlock=some g)(hn:CE P t=some 1)(hh:ZH c w B hi e1 e2 xss v vs m u)(ho:AC c w B (Iv 0 0) e2 zs u)(hm:m<xss.length):
 IP P N K o w (fun _ w'=>JM g w w'∧own2 c w' B hi e1 e2 (xss.set m zs) v (vs.set m u)):=by
 obtain⟨x,y,hop,hx,hy⟩:=Vl h
 obtain⟨a,b,d,hv,hbu⟩:=hh
 have hu1:u.cells= #[u]:=ho.cells
 have hu2:u.oneCell'=true:=ho.one
 have a':=a
 obtain⟨hl,⟨rfl,hn0⟩|⟨g',cap,cur,rfl,hb,hhp,h5,h6,h7,h8⟩⟩:=a'
 ·omega
 simp [Value.ownBlock]at hg
 subst hg
 obtain⟨ti,hi1,hsz⟩:=Ag.1 hn
 have hoff':off=m:=by rw [hoff];show 0+m*1=m;omega
 subst hoff'
 have hlen:off<cur.size:=by rw [h7];omega
 have hst:=run_storeCells_at P g' off e1 [u] 0 cur w hhp (by simp;omega) (by simpa using hu2)
 simp only [Fe]at hst
 intro ac hK Kt Q hk
 have hr:(execOp ac.eval o).run P w= .ok .skip (w.setRow g' (cur.toList.set off u).toArray):=by
  have e:List.take off cur.toList++[u]++List.drop (off+1) cur.toList=cur.toList.set off u:=by
   rw [List.set_eq_take_append_cons_drop,BE (by simpa using hlen)];simp
  simp [execOp,hop,hK.ev hx,hK.ev hy,Instr.storeAt,Instr.sureAddr,storeVar,CI,sizeOf,typeInfo,hi1,hsz,hu1]at hst ⊢
  rw [hst]
  simp at e
  simp [e]
 unfold Oper.wp
 rw [hr]
 have hU:=JM.setRow w g' (cur.toList.set off u).toArray
 refine hk _ _ ⟨hU,?_,?_,?_⟩
 ·refine⟨by rw [Ec,Ec];exact hl,.inr ⟨g',cap,_,by simp,hb,setRow_heap w g' cur _ e1 _ hhp,by simpa using h5,h6,by simpa using h7,?_⟩⟩
  rw [Ec]
  simp only [List.toList_toArray,Nat.mul_one]
  rw [List.take_set]
  congr 1
  simpa using h8
 ·intro i xs t hx2 ht
  rcases TX hx2 with ⟨rfl,rfl⟩|⟨hne,hx3⟩
  ·have:t=u:=by
    rw [List.getElem?_set_self (by rw [hl];omega)]at ht
    exact(AM ht).symm
   subst this
   refine⟨ho.keep (fun q hq=>setRow_other _ _ _ _ (fun e=>?_)) (fun _ h=>h) (fun k h=>absurd h.2 (AV k)),hbu,hv⟩
   subst e
   exact hv q q rfl hq rfl
  ·rw [List.getElem?_set_ne hne]at ht
   obtain⟨p,q,r,s⟩:=b i xs t (fun e=>hne e.symm) hx3 ht
   exact⟨p.keep (fun g2 hg2=>setRow_other _ _ _ _ (fun e=>by subst e;exact r g2 g2 rfl hg2 rfl)) (fun _ h=>h) (fun k h=>absurd h.2 (AV k)),q,r⟩
 ·intro i j t t' hij ht ht'
  have get:∀i t,(vs.set off u)[i]? =some t->(i=off∧t=u)∨(i≠off∧vs[i]? =some t):=fun i t h=>by
   rcases TX h with ⟨e,e2⟩|⟨e,e2⟩
   ·exact .inl ⟨e.symm,e2⟩
   ·exact .inr ⟨fun q=>e q.symm,e2⟩
  have hx:∀i t,i≠off->vs[i]? =some t->∃xs,xss[i]? =some xs:=fun i t _ h=>by
   have:=(AK.1 h).1
   exact⟨_,AH (by rw [hl]at this;omega)⟩
  rcases get i t ht with ⟨e,rfl⟩|⟨e,h1⟩<;>rcases get j t' ht' with ⟨e',rfl⟩|⟨e',h2⟩
  ·exact absurd (e.trans e'.symm) hij
  ·obtain⟨xs,hxs⟩:=hx j t' e' h2
   exact(b j xs t' e' hxs h2).2.2.2
  ·obtain⟨xs,hxs⟩:=hx i t e h1
   exact(b i xs t e hxs h1).2.2.2.symm
  ·exact d i j t t' e e' hij h1 h2
theorem XM{ei:TypeId}{t l c2 by' m m' k kd kd'}(ho:o.op= .makeSlice t l c2)(hu:P.underlying t=some (.slice e1))(hi:Ev P e1=some ([.slice none 0 0],1,by'))(hl:DW K l=some (.int kd m))(hc:DW K c2=some (.int kd' m'))(hmm:m'=m)
 (hk:Qw m by'=some k):
 IP P N K o w (fun u w'=>∃g,u= .slice (some ⟨g,0,none⟩) k k∧g=w.heap.size∧w'.heap.size=w.heap.size+1∧AU w w'∧own2 c w' g (g+1) e1 ei (List.replicate k []) u (List.replicate k (.slice none 0 0))):=by
 subst hmm
 unfold Ev at hi
 obtain⟨i,hi1,hi2⟩:=Cy.1 hi
 obtain⟨zv,hz1,hz2⟩:=Ag.1 hi2
 simp only [DI]at hz2
 obtain⟨e3,e4,e5⟩:=hz2
 unfold Qw at hk
 split at hk
 ·rename_i hm
  injection hk with hk
  have hr:=run_make (P:=P) w t e1 i zv hu hi1 hz1 kd kd' m' m' hm.1 (ED _) (by rw [e5,Int.mul_comm];exact hm.2.1) hm.2.2
  intro a hK Kt Q hkk
  have hr2:(execOp a.eval o).run P w= .ok (.value (.slice (some ⟨w.heap.size,0,none⟩) m'.toNat m'.toNat)) (w.alloc (.cells (madeCells zv.cells (m'.toNat*i.size)) e1)):=by
   simp [execOp,ho,hK.ev hl,hK.ev hc,hr]
  unfold Oper.wp
  rw [hr2]
  have hzc:zv.cells= #[.slice none 0 0]:=by rw [←Array.toList_inj,e3]
  have hmc:(madeCells zv.cells (m'.toNat*i.size)).toList=List.replicate k (.slice none 0 0):=by
   rw [hzc,e4,hk,Nat.mul_one]
   apply List.ext_getElem
   ·simp [GK]
   ·intro j h1 h2
    simp [madeCells,Nat.mod_one]
  refine hkk _ _ ⟨w.heap.size,by rw [hk],rfl,by simp,AU.alloc _ _,⟨by simp,.inr ⟨w.heap.size,k,_,by rw [List.length_replicate,hk],BN _,heap_alloc_new w _,by simp,by simp only [maxLen];omega,?_,?_⟩⟩,?_,?_⟩
  ·rw [←EG,hmc];simp
  ·rw [hmc];simp
  ·intro i xs u hx hu2
   have hxs:xs=[]:=by
    rw [EA]at hx;split at hx
    ·exact(AM hx).symm
    ·cases hx
   have hus:u= .slice none 0 0:=by
    rw [EA]at hu2;split at hu2
    ·exact(AM hu2).symm
    ·cases hu2
   subst hxs hus
   exact⟨AC.nil _ _ _ _ _,(fun q h=>by cases h),(fun g q _ h=>by cases h)⟩
  ·intro i j u u' _ hu2 _ g q hg
   have hus:u= .slice none 0 0:=by
    rw [EA]at hu2;split at hu2
    ·exact(AM hu2).symm
    ·cases hu2
   subst hus;cases hg
 ·cases hk
end
end Go.Eng
