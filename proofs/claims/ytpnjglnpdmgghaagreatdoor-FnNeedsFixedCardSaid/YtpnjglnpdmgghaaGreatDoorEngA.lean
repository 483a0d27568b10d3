/- The proof engine: what a function of the model computes, said by a plain function; no condition. -/
import Derived.WalkKit
import Derived.WalkSpells
import Derived.WalkLawsBesides
import Derived.Deep.QuietTactic
import Derived.Deep.Slices
import Derived.StillTailTactics
import Derived.OrdersHeld
import Derived.StillTail
import Derived.Carry
import Derived.ChangeSame
import Derived.Handed
import Derived.WideShapes
import Derived.ProofKit
import Derived.Laws.Cover3
import Derived.Laws.BytesString
import Derived.LaidLaws
import Derived.Stop.Joined
import Derived.Laws.StructEq
import Derived.KernelRfl
import Derived.RangeFuncFrom
import Derived.RangeFuncLeaves
import Derived.RangeFuncCalls
import Derived.OrdersIn
import Derived.TacticsInMore
import Derived.Lib.Overlaps
import Derived.Lib.AppendZerosOnto
import Derived.Laws.Externs
set_option linter.all false
namespace Go.Eng
open Go Go.RowKit
def Bg:=@List.take_succ_eq_append_getElem
def EZ:=@Int.mul_le_mul_of_nonneg_right
def CN:=@List.eq_nil_of_length_eq_zero
def Fx:=@Array.getD_eq_getD_getElem?
def Dy:=@Int.tdiv_eq_ediv_of_nonneg
def Ce:=@List.getD_eq_getElem?_getD
def BI:=@List.getElem?_append_right
def Ct:=@Array.getElem?_eq_some_iff
def AR:=@List.getElem?_eq_some_iff
def BA:=@List.getElem?_append_left
def By:=@List.mem_take_iff_getElem
def EW:=@Classical.byContradiction
def Df:=@List.drop_eq_getElem_cons
def AK:=@List.getElem?_eq_getElem
def Ap:=@Int.eq_ofNat_of_zero_le
def Ad:=@decide_eq_false_iff_not
def Em:=@List.getElem?_replicate
def FY:=@Nat.add_sub_cancel_left
def Do:=@World.block_lt_of_cell?
def Dp:=@Option.bind_eq_some_iff
def FA:=@List.drop_eq_nil_of_le
def BL:=@Option.map_eq_some_iff
def Fp:=@List.length_eq_one_iff
def CW:=@List.countP_le_length
def GC:=@List.length_filter_le
def BN:=@Bool.and_eq_false_iff
def BM:=@List.getElem?_eq_none
def DZ:=@List.take_append_drop
def GB:=@List.length_replicate
def Bh:=@Nat.eq_of_beq_eq_true
def FJ:=@Nat.le_of_ble_eq_true
def FV:=@Nat.pow_le_pow_right
def Dw:=@List.mem_of_getElem?
def Dx:=@List.mem_cons_of_mem
def BS:=@Bool.or_eq_false_iff
def GN:=@List.mem_iff_getElem
def CC:=@Nat.mul_le_mul_right
def GO:=@World.cell?_of_block
def GP:=@Region.noSelect_spec
def FW:=@List.mem_append_left
def AJ:=@beq_eq_false_iff_ne
def Bp:=@bne_eq_false_iff_eq
def DB:=@List.getElem_of_mem
def GX:=@Array.length_toList
def Bb:=@List.mem_singleton
def CA:=@List.length_append
def FI:=@of_decide_eq_false
def DV:=@List.countP_append
def Co:=@List.mem_cons_self
def CJ:=@Bool.not_eq_false'
def Eh:=@Nat.lt_of_lt_of_le
def Cm:=@List.getElem?_take
def Cv:=@List.getElem?_drop
def Cu:=@of_decide_eq_true
def CB:=@Bool.not_eq_true'
def FR:=@List.getElem?_map
def BZ:=@Int.toNat_natCast
def EQ:=@List.getElem?_set
def GH:=@List.getElem_take
def Ci:=@List.append_assoc
def Cj:=@bne_self_eq_false
def Cl:=@List.ext_getElem?
def Ak:=@decide_eq_true_eq
def GG:=@Result.andThen_ok
def EO:=@Option.some.injEq
def AQ:=@List.getElem_mem
def Fg:=@List.getElem_map
def AG:=@Bool.and_eq_true
def Ec:=@List.not_mem_nil
def FD:=@List.countP_cons
def Ch:=@List.take_length
def GW:=@List.drop_length
def CX:=@List.all_eq_true
def EC:=@List.length_take
def DO:=@List.length_cons
def CM:=@List.mem_append
def Er:=@List.length_set
def Av:=@decide_eq_false
def Dn:=@List.length_map
def AX:=@Nat.not_lt_zero
def Dg:=@List.nil_append
def Ai:=@Option.some.inj
def FN:=@List.map_append
def Dq:=@Bool.eq_iff_iff
def CZ:=@Bool.or_eq_true
def Gq:=@List.append_nil
def BC:=@Bool.not_false
def Aw:=@decide_eq_true
def FF:=@Bool.false_and
def FG:=@List.mem_range
def FE:=@Nat.mul_le_mul
def CO:=@run_underlying
def HH:=@size_madeCells
def Ac:=@Bool.not_true
def DX:=@List.mem_cons
def FS:=@Bool.true_and
def Fu:=@Bool.or_false
def Fw:=@List.all_cons
def Dk:=@Bool.false_or
def Gk:=@List.map_cons
def EE:=@Prod.mk.injEq
def BH:=@Nat.le_trans
def DA:=@Nat.zero_add
def ED:=@List.mem_map
def GU:=@Nat.lt_or_ge
def GR:=@Bool.true_or
def HA:=@Nat.add_zero
def DP:=@Sem.run_bind
def Bj:=@Nat.le_refl
def Gt:=@Int.le_refl
def Cy:=@Nat.add_mul
def BB:=@beq_iff_eq
def EI:=@bne_iff_ne
def BE:=@if_pos
def BU:=@if_neg
/-! ## Frames: what is known of the slots -/
abbrev KL:=List (Nat×Value)
def kl:KL->Nat->Option Value
 |[],_=>none
 |(s,v)::K,t=>bif Nat.beq s t then some v else kl K t
structure Kn(N:Nat)(K:KL)(a:Act):Prop where
 df:a.defers=[]
 sz:N<=a.tmps.size
 get:∀t v,kl K t=some v->a.tmps[t]? =some v
def ES(K:KL):Operand->Option Value
 | .tmp t=>kl K t
 | .const v=>some v
 | .func f=>some (.func (.func f) #[] #[])
 |_=>none
theorem Kn.ev{N K a x v}(h:Kn N K a)(E:ES K x=some v):a.eval x=v:=by
 cases x with
 |tmp t=>have:=h.get t v E;simp [Act.eval,Fx,this]
 |const c=>simpa [Act.eval,ES] using E
 |func f=>simpa [Act.eval,ES] using E
 |global g=>simp [ES]at E
def DE(K:KL):Option Tmp->Value->KL
 |some d,v=>(d,v)::K
 |none,_=>K
theorem Kn.put{N K a v}{d:Option Tmp}(h:Kn N K a)(J:∀t,d=some t->Nat.blt t N=true):Kn N (DE K d v) (a.put d v):=by
 cases d with
 |none=>exact h
 |some d=>
  have I:d<N:=by have:=J d rfl;simpa [Nat.blt,Nat.succ_le_iff] using this
  refine⟨h.df,by simpa [Act.put] using h.sz,fun t u E=>?_⟩
  have hsz:=h.sz
  simp only [DE,kl]at E
  by_cases e:d=t
  ·subst e
   simp at E
   subst E
   have F:d<a.tmps.size:=Eh I hsz
   simp [Act.put,F]
  ·have O:Nat.beq d t=false:=by cases hq:Nat.beq d t with
   |false=>rfl
   |true=>exact absurd (Bh hq) e
   rw [O]at E
   have:=h.get t u (by simpa using E)
   simp [Act.put,Array.getElem?_setIfInBounds,e,this]
def sY:KL->KL->Prop
 |[],_=>True
 |(t,v)::K',K=>kl K t=some v∧sY K' K
theorem Kn.weaken{N K K' a}(h:Kn N K a)(hk:sY K' K):Kn N K' a:=by
 refine⟨h.df,h.sz,fun t v E=>h.get t v ?_⟩
 induction K' with
 |nil=>simp [kl]at E
 |cons p K' ih=>
  obtain⟨s,u⟩:=p
  obtain⟨F,I⟩:=hk
  simp only [kl]at E
  by_cases e:s=t
  ·subst e;simp at E;subst E;exact F
  ·have J:Nat.beq s t=false:=by cases hq:Nat.beq s t with
   |false=>rfl
   |true=>exact absurd (Bh hq) e
   rw [J]at E
   exact ih I (by simpa using E)
/-! ## Worlds -/
abbrev Bl(w w':World):Prop:=Below w.heap.size w w'
theorem Bl.refl(w:World):Bl w w:=Below.refl _ _
theorem Bl.trans{a b c:World}(h:Bl a b)(k:Bl b c):Bl a c:=Below.trans h (k.mono h.size)
theorem Bl.drew(w:World):Bl w w.drew:=(Below.refl _ _).drew
theorem Bl.alloc(w:World)(o:Obj):Bl w (w.alloc o):=(Below.refl _ _).alloc (Bj _) o
/-! ## Text order -/
section
variable {P:Program} {N:Nat}
def TL(P:Program)(N:Nat)(ops:Array Oper)(Q:Exit->Act->World->Prop)(l:List Oper)(K:KL)(w:World):Prop:=
 ∀a,Kn N K a->wpList P ops Q l a w
def WC(P:Program)(N:Nat)(c:Code)(Q:Exit->Act->World->Prop)(K:KL)(w:World):Prop:=
 ∀a,Kn N K a->c.wp P Q a w
def HX(P:Program)(N:Nat)(K:KL)(o:Oper)(w:World)(v:Value):Prop:=
 ∀a,Kn N K a->∀w',Bl w w'->(execOp a.eval o).run P w'= .ok (.value v) w'
def Jv(P:Program)(N:Nat)(K:KL)(o:Oper)(w:World)(R:Value->World->Prop):Prop:=
 ∀a,Kn N K a->∀(Kt:Act->World->Prop) Q,(∀v w',R v w'->Kt (a.put o.dst v) w')->o.wp P a w Kt Q
def Ep(N:Nat):Option Tmp->Bool
 |none=>true
 |some d=>Nat.blt d N
theorem Ep.h{N:Nat}{d:Option Tmp}(h:Ep N d=true):∀t,d=some t->Nat.blt t N=true:=by
 intro t e;subst e;exact h
theorem HX.eff{K o w v}(h:HX P N K o w v):Jv P N K o w (fun u w'=>u=v∧w'=w):=by
 intro a E Kt Q hk
 unfold Oper.wp
 rw [h a E w (Bl.refl w)]
 exact hk v w ⟨rfl,rfl⟩
theorem TL.nil{ops Q K w}(h:∀a,Kn N K a->Q .normal a w):TL P N ops Q [] K w:=fun a E=>h a E
/-! ## Operations -/
section ops
variable {K:KL} {o:Oper} {w:World}
theorem OA{x v}(ho:o.op= .move x)(F:ES K x=some v):HX P N K o w v:=by
 intro a E w' _
 simp [execOp,ho,E.ev F]
theorem XU{x v}(ho:o.op= .assign x)(F:ES K x=some v):HX P N K o w v:=by
 intro a E w' _
 simp [execOp,ho,E.ev F]
theorem LZ{t x y u k m n}(ho:o.op= .binOp .add t x y u)(I:ES K x=some (.int k m))(F:ES K y=some (.int k n)):HX P N K o w (.int k (k.wrap (m+n))):=by
 intro a E w' _
 simp [execOp,ho,E.ev I,E.ev F,eqGuard,binOp,Op.intArith]
theorem iV{t x y u k m n}(ho:o.op= .binOp .sub t x y u)(I:ES K x=some (.int k m))(F:ES K y=some (.int k n)):HX P N K o w (.int k (k.wrap (m-n))):=by
 intro a E w' _
 simp [execOp,ho,E.ev I,E.ev F,eqGuard,binOp,Op.intArith]
theorem LP{t x y u k m n}(ho:o.op= .binOp .mul t x y u)(I:ES K x=some (.int k m))(F:ES K y=some (.int k n)):HX P N K o w (.int k (k.wrap (m*n))):=by
 intro a E w' _
 simp [execOp,ho,E.ev I,E.ev F,eqGuard,binOp,Op.intArith]
theorem Ul{t x y u k m n}(ho:o.op= .binOp .quo t x y u)(J:ES K x=some (.int k m))(F:ES K y=some (.int k n))(I:n≠0):HX P N K o w (.int k (k.wrap (m.tdiv n))):=by
 intro a E w' _
 simp [execOp,ho,E.ev J,E.ev F,eqGuard,binOp,Op.intDiv,I]
theorem NN{t x y u k m n}(ho:o.op= .binOp .rem t x y u)(J:ES K x=some (.int k m))(F:ES K y=some (.int k n))(I:n≠0):HX P N K o w (.int k (m.tmod n)):=by
 intro a E w' _
 simp [execOp,ho,E.ev J,E.ev F,eqGuard,binOp,Op.intDiv,I]
theorem kN{t x y u k m n}(ho:o.op= .binOp .lss t x y u)(I:ES K x=some (.int k m))(F:ES K y=some (.int k n)):HX P N K o w (.bool (decide (m<n))):=by
 intro a E w' _
 simp [execOp,ho,E.ev I,E.ev F,eqGuard,binOp,Op.intCmp]
theorem gZ{t x y u k m n}(ho:o.op= .binOp .leq t x y u)(I:ES K x=some (.int k m))(F:ES K y=some (.int k n)):HX P N K o w (.bool (decide (m<=n))):=by
 intro a E w' _
 simp [execOp,ho,E.ev I,E.ev F,eqGuard,binOp,Op.intCmp]
theorem jJ{t x y u k m n}(ho:o.op= .binOp .gtr t x y u)(I:ES K x=some (.int k m))(F:ES K y=some (.int k n)):HX P N K o w (.bool (decide (m>n))):=by
 intro a E w' _
 simp [execOp,ho,E.ev I,E.ev F,eqGuard,binOp,Op.intCmp]
theorem jW{t x y u k m n}(ho:o.op= .binOp .geq t x y u)(I:ES K x=some (.int k m))(F:ES K y=some (.int k n)):HX P N K o w (.bool (decide (m>=n))):=by
 intro a E w' _
 simp [execOp,ho,E.ev I,E.ev F,eqGuard,binOp,Op.intCmp]
theorem iP{t x y u k m n}(ho:o.op= .binOp .eql t x y u)(I:ES K x=some (.int k m))(F:ES K y=some (.int k n)):HX P N K o w (.bool (m==n)):=by
 intro a E w' _
 simp [execOp,ho,E.ev I,E.ev F,eqGuard,binOp,Op.intCmp]
theorem iC{t x y u k m n}(ho:o.op= .binOp .neq t x y u)(I:ES K x=some (.int k m))(F:ES K y=some (.int k n)):HX P N K o w (.bool (m !=n)):=by
 intro a E w' _
 simp [execOp,ho,E.ev I,E.ev F,eqGuard,binOp,Op.intCmp]
theorem SV{t m n}{w:World}(E:P.underlying t=some .bool):(Op.equal t (.bool m) (.bool n)).run P w= .ok (m==n) w:=by
 simp only [Op.equal,Op.maxDepth]
 rw [show(10000:Nat)=9999+1 from rfl,Op.equalIn]
 simp [CO E]
theorem iM{t x y u m n}(ho:o.op= .binOp .eql t x y u)(I:P.underlying t=some .bool)(J:ES K x=some (.bool m))(F:ES K y=some (.bool n)):HX P N K o w (.bool (m==n)):=by
 intro a E w' _
 simp [execOp,ho,E.ev J,E.ev F,eqGuard,binOp,SV I]
theorem Us{t x y u m n}(ho:o.op= .binOp .neq t x y u)(I:P.underlying t=some .bool)(J:ES K x=some (.bool m))(F:ES K y=some (.bool n)):HX P N K o w (.bool (m !=n)):=by
 intro a E w' _
 simp [execOp,ho,E.ev J,E.ev F,eqGuard,binOp,SV I,bne]
theorem jL{t x y u m n}(ho:o.op= .binOp .eql t x y u)(I:ES K x=some (.string m))(F:ES K y=some (.string n)):HX P N K o w (.bool (m.toList==n.toList)):=by
 intro a E w' _
 simp [execOp,ho,E.ev I,E.ev F,eqGuard,binOp,Op.stringOp]
theorem kO{t x y u m n}(ho:o.op= .binOp .neq t x y u)(I:ES K x=some (.string m))(F:ES K y=some (.string n)):HX P N K o w (.bool (m.toList !=n.toList)):=by
 intro a E w' _
 simp [execOp,ho,E.ev I,E.ev F,eqGuard,binOp,Op.stringOp,bne]
theorem gW{t x b}(ho:o.op= .unOp .not t x)(F:ES K x=some (.bool b)):HX P N K o w (.bool (!b)):=by
 intro a E w' _
 simp [execOp,ho,E.ev F,Op.unary]
theorem gX{t x k m}(ho:o.op= .unOp .neg t x)(F:ES K x=some (.int k m)):HX P N K o w (.int k (k.wrap (0-m))):=by
 intro a E w' _
 simp [execOp,ho,E.ev F,Op.unary,Op.intArith]
theorem XQ{c x y b u}(ho:o.op= .pick c x y)(hc:ES K c=some (.bool b))(I:b=true)(F:ES K x=some u):HX P N K o w u:=by
 intro a E w' _
 subst I
 simp [execOp,ho,E.ev hc,E.ev F,asBool]
theorem Wn{c x y b u}(ho:o.op= .pick c x y)(hc:ES K c=some (.bool b))(I:b=false)(F:ES K y=some u):HX P N K o w u:=by
 intro a E w' _
 subst I
 simp [execOp,ho,E.ev hc,E.ev F,asBool]
theorem PO{t x base n c e}(ho:o.op= .call { callee:=.builtin .len,args:=#[x],argTypes:=#[t] })(ht:P.underlying t=some (.slice e))(hx:ES K x=some (.slice base n c)):HX P N K o w (.int .i64 n):=by
 intro a E w' _
 simp [execOp,ho,resolve,invoke,builtin,E.ev hx,Builtin.len_,CO ht,goInt]
theorem Qo{t x s}(ho:o.op= .call { callee:=.builtin .len,args:=#[x],argTypes:=#[t] })(ht:P.underlying t=some .string)(hx:ES K x=some (.string s)):HX P N K o w (.int .i64 s.size):=by
 intro a E w' _
 simp [execOp,ho,resolve,invoke,builtin,E.ev hx,run_len_string,ht,goInt]
theorem HJ{x i vs u}(ho:o.op= .extract x i)(F:ES K x=some (.tuple vs))(hi:vs[i]? =some u):HX P N K o w u:=by
 intro a E w' _
 simp [execOp,ho,E.ev F,Instr.extract,hi]
theorem HE{ts x y k m n}(ho:o.op= .call { callee:=.builtin .min,args:=#[x,y],argTypes:=ts })(hx:ES K x=some (.int k m))(hy:ES K y=some (.int k n)):HX P N K o w (.int k (min m n)):=by
 intro a E w' _
 simp [execOp,ho,resolve,invoke,builtin,E.ev hx,E.ev hy,run_min_int2]
 split<;>omega
theorem Hi{ts x y k m n}(ho:o.op= .call { callee:=.builtin .max,args:=#[x,y],argTypes:=ts })(hx:ES K x=some (.int k m))(hy:ES K y=some (.int k n)):HX P N K o w (.int k (max m n)):=by
 intro a E w' _
 simp [execOp,ho,resolve,invoke,builtin,E.ev hx,E.ev hy,run_max_int2]
 split<;>omega
theorem Jr{s t x k j m}(ho:o.op= .convert s t x)(J:P.underlying s=some (.int j))(I:P.underlying t=some (.int k))(F:ES K x=some (.int j m)):HX P N K o w (.int k (k.wrap m)):=by
 intro a E w' _
 simp [execOp,ho,E.ev F,convert,CO J,CO I,Conv.intToInt]
end ops
end
end Go.Eng
namespace Go.Eng
open Go Go.RowKit
section
variable {P:Program} {N:Nat}
/-! ## Memory -/
theorem Ib{w w':World}{b off:Nat}(e:w'.heap[b]? =w.heap[b]?):w'.frozen? ⟨b,off,none⟩=w.frozen? ⟨b,off,none⟩:=by simp only [World.frozen?,e]
def BK(w:World)(b off:Nat)(us:List Value):Prop:=∀j u,us[j]? =some u->w.cell? ⟨b,off+j,none⟩=some u∧w.frozen? ⟨b,off+j,none⟩=false
theorem BK.block{w w':World}{b off us}(h:BK w b off us)(e:w'.heap[b]? =w.heap[b]?):BK w' b off us:=
 fun j u hu=>⟨by rw [GO (w:=w) e];exact(h j u hu).1,by rw [Ib e];exact(h j u hu).2⟩
theorem BK.ext{w w':World}{b off us}(h:BK w b off us)(E:Bl w w'):BK w' b off us:=
 fun j u hu=>h.block (E.block b (Do _ _ (h j u hu).1)) j u hu
def Bu(w:World)(b:Nat)(us:List Value)(t:TypeId):Prop:=w.heap[b]? =some (.cells us.toArray t (0,0))
theorem Bu.lt{w:World}{b us t}(h:Bu w b us t):b<w.heap.size:=(Ct.1 h).1
theorem Bu.cells{w:World}{b us t}(h:Bu w b us t):BK w b 0 us:=fun j u hu=>by
 refine⟨?_,by unfold Bu at h;simp [World.frozen?,h]⟩
 rw [DA,cell_of_row w b j _ t _ h];simpa using hu
theorem Bu.ext{w w':World}{b us t}(h:Bu w b us t)(E:Bl w w'):Bu w' b us t:=by
 unfold Bu;rw [E.block b h.lt];exact h
structure JF(b:Nat)(w w':World):Prop where
 os:w'.os=w.os
 tape:w'.tape=w.tape
 output:w'.output=w.output
 size:w'.heap.size=w.heap.size
 block:∀k,k≠b->w'.heap[k]? =w.heap[k]?
theorem JF.below{b B:Nat}{w w':World}(h:JF b w w')(E:B<=b):Below B w w':=
 ⟨h.os,h.tape,h.output,by rw [h.size];exact Bj _,fun k hk=>h.block k (by omega)⟩
theorem Bu.upd{w w':World}{b c us t}(h:Bu w b us t)(F:JF c w w')(E:b≠c):Bu w' b us t:=by
 unfold Bu;rw [F.block b E];exact h
theorem BK.upd{w w':World}{b c off us}(h:BK w b off us)(F:JF c w w')(E:b≠c):BK w' b off us:=
 h.block (F.block b E)
theorem JF.setRow(w:World)(b:Nat)(cs:Array Value):JF b w (w.setRow b cs):=
 ⟨rfl,rfl,rfl,by simp,fun k hk=>setRow_other w b k cs hk⟩
def BT(P:Program)(t f:Nat):Option Nat:=
 match P.underlying t with
 |some (.struct fs)=>match fs[f]? with
  |some fd=>match P.info? fd.type with
   |some i=>if i.size=0 then none else some fd.offset
   |none=>none
  |none=>none
 |_=>none
def Ei(P:Program)(t:Nat):Option Bool:=
 match P.underlying t with
 |some (.struct _)|some (.array _ _)=>some true
 |some _=>some false
 |none=>none
def Cp(P:Program)(t:Nat):Option Nat:=(P.info? t).map (·.size)
def GQ(P:Program)(t:Nat):Option (List Value):=(P.info? t).bind fun i=>i.zero.map (·.cells.toList)
theorem Fa(b off n:Nat):(⟨b,off,none⟩:Addr).add n=⟨b,off+n,none⟩:=by
 unfold Addr.add;split<;>simp_all
section
variable {K:KL} {o:Oper} {w:World}
theorem Tv{t x f b off fo}(ho:o.op= .fieldAddr t x f)(E:BT P t f=some fo)(O:ES K x=some (.pointer (some ⟨b,off,none⟩))):
 HX P N K o w (.pointer (some ⟨b,off+fo,none⟩)):=by
 intro a I w' _
 unfold BT at E
 split at E
 ·rename_i fs hu
  split at E
  ·rename_i U F
   split at E
   ·rename_i i hi
    split at E
    ·cases E
    ·rename_i J
     injection E with E
     simp [execOp,ho,I.ev O,Instr.fieldAt,CO hu,F,Instr.sureAddr,fieldPlace,sizeOf,typeInfo,hi,J,Fa,E]
   ·cases E
  ·cases E
 ·cases E
theorem KR{t b}(h:Ei P t=some b)(w:World):(isAgg t).run P w= .ok b w:=by
 unfold Ei at h
 unfold isAgg
 split at h
 ·rename_i hu;injection h with h;subst h;simp [CO hu]
 ·rename_i hu;injection h with h;subst h;simp [CO hu]
 ·rename_i d E F hu;injection h with h;subst h
  rw [DP,CO hu]
  cases d<;>first|rfl|exact absurd rfl (E _)|exact absurd rfl (F _ _)
 ·cases h
theorem UQ{t x b o0 off us u}(j:Nat)(ho:o.op= .load t x)(J:Ei P t=some false)(W:ES K x=some (.pointer (some ⟨b,off,none⟩)))(F:BK w b o0 us)(O:off=o0+j)(hu:us[j]? =some u):HX P N K o w u:=by
 have hc:w.cell? ⟨b,off,none⟩=some u:=by rw [O];exact(F j u hu).1
 intro a U w' I
 have E:w'.cell? ⟨b,off,none⟩=some u:=by rw [I.cell (Do _ _ hc)];exact hc
 simp [execOp,ho,U.ev W,Instr.loadAt,Instr.sureAddr,loadVar,DP,KR J,E]
theorem BK.sub{w:World}{b off:Nat}{us:List Value}(h:BK w b off us)(i n:Nat):BK w b (off+i) ((us.drop i).take n):=fun j u hu=>by
 rw [Cm]at hu
 split at hu
 ·rw [Cv]at hu;rw [Nat.add_assoc];exact h (i+j) u hu
 ·cases hu
theorem UN{t x b off us}(ho:o.op= .load t x)(I:Ei P t=some true)(W:ES K x=some (.pointer (some ⟨b,off,none⟩)))(hc:BK w b off us)(Y:Cp P t=some us.length):
 HX P N K o w (.agg us.toArray):=by
 intro a O w' J
 have E:=hc.ext J
 obtain⟨i,hi,U⟩:=BL.1 Y
 have hl:(loadCells ⟨b,off,none⟩ us.length).run P w'= .ok us.toArray w':=
  run_loadCells_list (P:=P) w' ⟨b,off,none⟩ us (fun j v F=>by rw [Fa];exact(E j v F).1)
 simp [execOp,ho,O.ev W,Instr.loadAt,Instr.sureAddr,loadVar,DP,KR I,sizeOf,typeInfo,hi,U,hl]
theorem UI{t x y b off v cur e}(ho:o.op= .store t x y)(Z:ES K x=some (.pointer (some ⟨b,off,none⟩)))(O:ES K y=some v)(J:Bu w b cur e)(hn:Cp P t=some v.cells.toList.length)
 (W:v.cells.toList.all Value.oneCell'=true) (E:Nat.ble (off+v.cells.toList.length) cur.length=true):
 Jv P N K o w (fun _ w'=>JF b w w'∧Bu w' b (cur.take off++v.cells.toList++cur.drop (off+v.cells.toList.length)) e):=by
 intro a I Kt Q hk
 obtain⟨i,hi,Y⟩:=BL.1 hn
 have E:=FJ E
 have F:=run_storeCells_at P b off e v.cells.toList 0 cur.toArray w J (by simpa using E) (CX.1 W)
 simp only [HA]at F
 unfold Oper.wp
 have U:(execOp a.eval o).run P w= .ok .skip (w.setRow b (cur.take off++v.cells.toList++cur.drop (off+v.cells.toList.length)).toArray):=by
  simp [execOp,ho,I.ev Z,I.ev O,Instr.storeAt,Instr.sureAddr,storeVar,DP,sizeOf,typeInfo,hi,Y]at F ⊢
  rw [F]
  simp
 rw [U]
 exact hk _ _ ⟨JF.setRow _ _ _,by unfold Bu;exact setRow_heap w b _ _ e _ J⟩
def Pv(w w':World)(b:Nat)(us:List Value)(t:TypeId):Prop:=b=w.heap.size∧w'.heap.size=w.heap.size+1∧Bl w w'∧Bu w' b us t
theorem Pv.of(w:World)(us:List Value)(t:TypeId):Pv w (w.alloc (.cells us.toArray t)) w.heap.size us t:=
 ⟨rfl,by simp,Bl.alloc _ _,heap_alloc_new w _⟩
theorem Aj{t zs}(ho:o.op= .alloc t)(hz:GQ P t=some zs):
 Jv P N K o w (fun v w'=>∃b,v= .pointer (some ⟨b,0,none⟩)∧Pv w w' b zs t):=by
 intro a O Kt Q hk
 unfold GQ at hz
 obtain⟨i,hi,E⟩:=Dp.1 hz
 obtain⟨z,F,I⟩:=BL.1 E
 have J:(execOp a.eval o).run P w= .ok (.value (.pointer (some ⟨w.heap.size,0,none⟩))) (w.alloc (.cells zs.toArray t)):=by
  subst I
  simp [execOp,ho,Instr.alloc,zeroValue,typeInfo,hi,F,newVar,newRow,newObj];simp [Sem.run,Result.andThen]
 unfold Oper.wp
 rw [J]
 exact hk _ _ ⟨_,rfl,Pv.of w zs t⟩
theorem Am{t x v}(ho:o.op= .box t x)(F:ES K x=some v):
 Jv P N K o w (fun u w'=>∃b,u= .pointer (some ⟨b,0,none⟩)∧Pv w w' b v.cells.toList t):=by
 intro a E Kt Q hk
 have I:(execOp a.eval o).run P w= .ok (.value (.pointer (some ⟨w.heap.size,0,none⟩))) (w.alloc (.cells v.cells.toList.toArray t)):=by
  simp [execOp,ho,E.ev F,Instr.box,newVar,newRow,newObj];simp [Sem.run,Result.andThen]
 unfold Oper.wp
 rw [I]
 exact hk _ _ ⟨_,rfl,Pv.of w _ t⟩
/-! ## Calls -/
def SR(K:KL):List Operand->Option (List Value)
 |[]=>some []
 |x::xs=>match ES K x,SR K xs with|some v,some vs=>some (v::vs)|_,_=>none
theorem Kn.evs{K a}(h:Kn N K a):∀{xs vs},SR K xs=some vs->xs.map a.eval=vs
 |[],vs,e=>by simp [SR]at e;subst e;rfl
 |x::xs,vs,e=>by
  unfold SR at e
  split at e
  ·rename_i v I E F
   injection e with e;subst e
   simp [h.ev E,h.evs F]
  ·cases e
def Bm(P:Program)(f:FuncId):Bool:=match P.funcs[f]? with|some fn=> !(fn.name== "runtime.NumGoroutine")&&fn.body.isSome|none=>false
theorem Qh{f}(h:Bm P f=true)(args:Array Value)(w:World):(callFunc f args).run P w= .ok (.enter f args) w:=by
 unfold Bm at h
 split at h
 ·rename_i fn I
  simp only [AG,CB]at h
  have J:fn.body.isNone=false:=by cases hq:fn.body<;>simp_all
  have E:¬fn.body=none:=by intro e;simp [e]at J
  have F:¬fn.name= "runtime.NumGoroutine" :=by intro e;simp [e]at h
  simp [callFunc,I,F,E]
 ·cases h
def Gh(R:Value->World->Prop):Ending->World->Prop:=fun e w'=>∃v,e= .returned v∧R v w'
theorem WE{f args tys vs}{R:Value->World->Prop}(ho:o.op= .call { callee:=.value (.func f),args:=args,argTypes:=tys })(hf:Bm P f=true)
 (ha:SR K args.toList=some vs) (hc:Calls P f vs.toArray w (Gh R)):Jv P N K o w R:=by
 intro a F Kt Q hk
 have E:args.map a.eval=vs.toArray:=by
  have:=F.evs ha
  apply Array.ext'
  simpa using this
 have J:(execOp a.eval o).run P w= .ok (.enter f vs.toArray) w:=by
  simp [execOp,ho,resolve,Act.eval,Deferred.ofValue,invoke,E,Qh hf]
 unfold Oper.wp
 rw [J]
 exact hc.mono fun e w' ⟨v,E,I⟩=>by subst E;exact hk _ _ I
end
/-! ## Code -/
section
variable {Q:Exit -> Act -> World -> Prop} {K:KL} {w:World}
theorem WC.seq{x y:Code}(h:WC P N x (Exit.then (fun F w'=>y.wp P Q F w') Q) K w):WC P N (.seq x y) Q K w:=fun a E=>wp_seq (h a E)
theorem WC.region{id:Nat}{l:List Oper}(h:TL P N l.toArray Q l K w):WC P N (.region id l.toArray false) Q K w:=fun a E=>wp_region_lit (h a E)
theorem WC.block{id:Nat}{c:Code}(h:WC P N c (Exit.inBlock id Q) K w):WC P N (.block id c) Q K w:=fun a E=>wp_block (h a E)
theorem WC.skip(h:∀a,Kn N K a->Q .normal a w):WC P N .skip Q K w:=fun a E=>wp_skip (h a E)
theorem WC.exit{id:Nat}(h:∀a,Kn N K a->Q (.exit id) a w):WC P N (.exit id) Q K w:=fun a E=>wp_exit (h a E)
theorem WC.ret(h:∀a,Kn N K a->Q .ret a w):WC P N .ret Q K w:=fun a E=>wp_ret (h a E)
theorem WC.cond{c:Operand}{x y:Code}{t:Bool}(hc:ES K c=some (.bool t))(I:t=true->WC P N x Q K w)(F:t=false->WC P N y Q K w):WC P N (.cond c x y) Q K w:=
 fun a E=>wp_cond_split (E.ev hc) (fun h=>I h a E) (fun h=>F h a E)
theorem WC.loop{c:Code}(I:Nat->Act->World->Prop)(m:Nat)(h0:∀a,Kn N K a->I m a w)
 (J:∀m a w,I m a w->c.wp P (Exit.then (fun U w'=>∃m',m'<m∧I m' U w') Q) a w):WC P N (.loop c) Q K w:=by
 intro a hK
 classical
 have O:∀a w,(∃m,I m a w)->∃m,I m a w∧∀m',I m' a w->m<=m':=by
  intro a w ⟨m,hm⟩
  induction m using Nat.strongRecOn with
  |_ m ih=>
   by_cases h:∃m',m'<m∧I m' a w
   ·obtain⟨m',W,h2⟩:=h;exact ih m' W h2
   ·exact⟨m,hm,fun m' E=>Nat.le_of_not_lt fun F=>h ⟨m',F,E⟩⟩
 let μ:Act->World->Nat:=fun a w=>if h:∃m,I m a w then Classical.choose (O a w h)else 0
 have Y:∀a w,(h:∃m,I m a w)->I (μ a w) a w∧∀m',I m' a w->μ a w<=m':=by
  intro a w h
  simp only [μ,dif_pos h]
  exact Classical.choose_spec (O a w h)
 refine wp_loop (fun a w=>∃m,I m a w) μ ⟨m,h0 a hK⟩ fun a w hI=>?_
 obtain⟨W,h2⟩:=Y a w hI
 refine Code.wp_mono ?_ (J _ a w W)
 intro e U w' Z
 cases e with
 |normal=>
  obtain⟨m',F,E⟩:=Z
  exact⟨⟨m',E⟩,Nat.lt_of_le_of_lt ((Y U w' ⟨m',E⟩).2 m' E) F⟩
 |_=>exact Z
end
/-! ## Functions -/
def Sc:Nat->List Value->KL
 |_,[]=>[]
 |i,v::vs=>(i,v)::Sc (i+1) vs
theorem RP:∀(vs:List Value) (i t:Nat) (u:Value),kl (Sc i vs) t=some u->i<=t∧vs[t-i]? =some u
 |[],_,_,_,h=>by simp [Sc,kl]at h
 |v::vs,i,t,u,h=>by
  simp only [Sc,kl]at h
  cases hq:Nat.beq i t with
  |true=>
   rw [hq]at h
   have:=Bh hq
   subst this
   simpa using h
  |false=>
   rw [hq]at h
   obtain⟨F,E⟩:=RP vs (i+1) t u (by simpa using h)
   refine⟨by omega,?_⟩
   rw [show t-i=(t-(i+1))+1 by omega]
   simpa using E
theorem cH{f:FuncId}{fn:Func}{c:Code}{vs:List Value}{w:World}{R:Ending->World->Prop}
 (I:P.funcs[f]? =some fn) (O:fn.body=some c) (U:fn.ntmps=N) (h:WC P N c (bodyPost P fn R) (Sc 0 vs) w):Calls P f vs.toArray w R:=by
 refine calls_of_wp I O (h _ ⟨rfl,?_,?_⟩)
 ·simp [U];omega
 ·intro t v J
  obtain⟨_,F⟩:=RP vs 0 t v J
  have E:t<vs.length:=by
   rcases GU t vs.length with h|h
   ·exact h
   ·simp [h]at F
  simp at F
  rw [Array.getElem?_append_left (by simpa using E)]
  simpa using F
def Rr(P:Program)(K:KL)(w:World):List ResultVar->List Value->Prop
 |[],[]=>True
 | .tmp t::rs,v::vs=>kl K t=some v∧Rr P K w rs vs
 | .cell p ty::rs,v::vs=>(∃b,kl K p=some (.pointer (some ⟨b,0,none⟩))∧(loadVar ty ⟨b,0,none⟩).run P w= .ok v w)∧Rr P K w rs vs
 |_,_=>False
def Hd:List Value->Value
 |[v]=>v
 |vs=>.tuple vs.toArray
def WB(a:Act):ResultVar->Sem Value
 | .tmp t=>pure (a.tmps.getD t undef)
 | .cell p t=>do loadVar t (←asAddr (a.tmps.getD p undef))
theorem JW{K a w}(h:Kn N K a):∀{rs vs},Rr P K w rs vs->(rs.mapM (WB a)).run P w= .ok vs w
 |[],[],_=>by simp
 | .tmp t::rs,v::vs,⟨h1,h2⟩=>by
  have:=h.get t v h1
  have E:=JW h h2
  simp [WB,Fx,this,E]
 | .cell p ty::rs,v::vs,⟨⟨b,h1,h3⟩,h2⟩=>by
  have:=h.get p _ h1
  have E:=JW h h2
  simp [WB,Fx,this,asAddr,h3,E]
theorem TY{fn:Func}{rs vs K w R}(O:fn.results=rs.toArray)(ho:Rr P K w rs vs)(J:R (.returned (Hd vs)) w):∀a,Kn N K a->bodyPost P fn R .ret a w:=by
 intro a F
 refine bodyPost_ret (v:=Hd vs) ?_ F.df J
 have:=JW (P:=P) F ho
 have E:∀f:ResultVar->Sem Value,(∀r,f r=WB a r)->(rs.mapM f).run P w= .ok vs w:=by
  intro f I;rw [show f=WB a from funext I];exact this
 unfold results
 rw [O,List.mapM_toArray]
 simp only [DP,Sem.run_map]
 rw [E _ (by intro r;cases r<;>rfl)]
 simp only [GG,Sem.run_pure]
 match vs,ho with
 |[],_=>rfl
 |[v],_=>rfl
 |v::v'::vs,_=>simp [Hd]
end
end Go.Eng
namespace Go.Eng
open Go Go.RowKit
section
variable {P:Program} {N:Nat}
/-! ## Guards, cuts -/
def Rf(ops:Array Oper)(j:Nat):Option Tmp:=(ops[j]?).bind (·.dst)
theorem Kn.yielded{K a ops j t b}(h:Kn N K a)(E:Rf ops j=some t)(F:kl K t=some (.bool b)):yielded ops a.tmps j=some b:=by
 have:=h.get t _ F
 unfold Rf at E
 simp [Go.yielded,E,this]
section
variable {ops:Array Oper} {Q:Exit -> Act -> World -> Prop} {o:Oper} {rest l:List Oper} {K:KL} {w:World}
theorem Wu{K a j t b want}(h:Kn N K a)(I:o.guard=some (j,want))(E:Rf ops j=some t)(J:kl K t=some (.bool b))(F:b=want):Region.wanted o (yielded ops a.tmps)=true:=by
 subst F;simp [Region.wanted,I,h.yielded E J]
theorem Yz{K a j t b want}(h:Kn N K a)(I:o.guard=some (j,want))(E:Rf ops j=some t)(J:kl K t=some (.bool b))(F:b= !want):Region.wanted o (yielded ops a.tmps)=false:=by
 subst F;simp [Region.wanted,I,h.yielded E J]
theorem Tj{l1 l2:List Oper}:∀{a w},wpList P ops (Exit.then (fun J w'=>wpList P ops Q l2 J w') Q) l1 a w->wpList P ops Q (l1++l2) a w:=by
 induction l1 with
 |nil=>intro a w h;exact h
 |cons o l1 E=>
  intro a w h
  unfold wpList at h
  show wpList P ops Q (o::(l1++l2)) a w
  unfold wpList
  split at h
  ·rename_i I
   rw [BE I]
   refine h.imp (fun h=>?_) (fun h=>h)
   unfold Oper.wp at*
   generalize (execOp a.eval o).run P w=r at*
   cases r with
   |ok n w'=>
    cases n<;>simp only [Oper.upon]at h ⊢ <;>
     first
      |exact E h
      |exact Calls.mono h (fun e O F=>by cases e<;>first|exact E F|exact F)
      |exact Rows.mono h (fun _ _ F=>E F)
      |exact h
   |halt x w'=>cases x<;>simp only [Oper.upon]at h ⊢ <;>exact h
  ·rename_i I
   rw [BU I]
   exact E h
theorem TL.cut(k:Nat)(K':KL)(R:World->Prop)(W:TL P N ops (Exit.then (fun E w'=>Kn N K' E∧R w') Q) (l.take k) K w)(O:∀w',R w'->TL P N ops Q (l.drop k) K' w'):TL P N ops Q l K w:=by
 intro a U
 rw [←DZ k l]
 refine Tj ?_
 have:=W a U
 revert this
 generalize l.take k=l1
 intro h
 have mono:∀(l1:List Oper) a w,wpList P ops (Exit.then (fun E w'=>Kn N K' E∧R w') Q) l1 a w->wpList P ops (Exit.then (fun E w'=>wpList P ops Q (l.drop k) E w') Q) l1 a w:=by
  intro l1
  induction l1 with
  |nil=>intro a w h;exact O w h.2 a h.1
  |cons o l1 I=>
   intro a w h
   unfold wpList at h ⊢
   split at h
   ·rename_i J
    rw [BE J]
    refine h.imp (fun h=>?_) (fun h=>h)
    unfold Oper.wp at*
    generalize (execOp a.eval o).run P w=r at*
    cases r with
    |ok n w'=>
     cases n<;>simp only [Oper.upon]at h ⊢ <;>
      first
       |exact I _ _ h
       |exact Calls.mono h (fun e Y F=>by cases e<;>first|exact I _ _ F|exact F)
       |exact Rows.mono h (fun _ _ F=>I _ _ F)
       |exact h
    |halt x w'=>cases x<;>simp only [Oper.upon]at h ⊢ <;>exact h
   ·rename_i J
    rw [BU J]
    exact I _ _ h
 exact mono l1 a w h
/-! ## Regions whose order is drawn, all of whose operations are quiet -/
def QL(P:Program)(N:Nat)(ops:Array Oper)(w:World)(Qa:Act->Prop)(l:List Oper)(K:KL):Prop:=
 ∀a,Kn N K a->wpQuiet P ops (fun w'=>Bl w w') Qa l a
def zJ(P:Program)(N:Nat)(K:KL)(o:Oper)(w:World)(v:Value):Prop:=
 ∀a,Kn N K a->∀w',Bl w w'->o.quietAt P a (fun w'=>Bl w w') w' v
theorem HX.qui{v}(h:HX P N K o w v):zJ P N K o w v:=by
 intro a E w' F
 unfold Oper.quietAt
 rw [h a E w' F]
 exact⟨rfl,rfl⟩
theorem aO{f args tys vs v}(ho:o.op= .call { callee:=.value (.func f),args:=args,argTypes:=tys })(hf:Bm P f=true)
 (ha:SR K args.toList=some vs) (hc:∀w',Bl w w'->Calls P f vs.toArray w' (Gh fun u E=>u=v∧Bl w' E)):zJ P N K o w v:=by
 intro a U w' F
 have I:args.map a.eval=vs.toArray:=by
  have:=U.evs ha
  apply Array.ext'
  simpa using this
 have O:(execOp a.eval o).run P w'= .ok (.enter f vs.toArray) w':=by
  simp [execOp,ho,resolve,Act.eval,Deferred.ofValue,invoke,I,Qh hf]
 unfold Oper.quietAt
 rw [O]
 exact⟨rfl,(hc w' F).mono fun e E ⟨u,W,J,Y⟩=>by subst W J;exact⟨rfl,F.trans Y⟩⟩
variable {Qa:Act -> Prop}
theorem QL.nil(h:∀a,Kn N K a->Qa a):QL P N ops w Qa [] K:=fun a E=>h a E
theorem Sm{C:World->Prop}{l1 l2:List Oper}:∀{a},wpQuiet P ops C (fun J=>wpQuiet P ops C Qa l2 J) l1 a->wpQuiet P ops C Qa (l1++l2) a:=by
 induction l1 with
 |nil=>intro a h;exact h
 |cons o l1 F=>
  intro a h
  unfold wpQuiet at h
  show wpQuiet P ops C Qa (o::(l1++l2)) a
  unfold wpQuiet
  split at h
  ·rename_i E
   rw [BE E]
   obtain⟨v,O,I⟩:=h
   exact⟨v,O,F I⟩
  ·rename_i E
   rw [BU E]
   exact F h
theorem Uz{C:World->Prop}{Qa I:Act->Prop}(hm:∀a,Qa a->I a):∀{l1:List Oper} {a},wpQuiet P ops C Qa l1 a->wpQuiet P ops C I l1 a:=by
 intro l1
 induction l1 with
 |nil=>intro a h;exact hm _ h
 |cons o l1 F=>
  intro a h
  unfold wpQuiet at h ⊢
  split at h
  ·rename_i E
   rw [BE E]
   obtain⟨v,O,J⟩:=h
   exact⟨v,O,F J⟩
  ·rename_i E
   rw [BU E]
   exact F h
theorem QL.cut(k:Nat)(K':KL)(J:QL P N ops w (fun E=>Kn N K' E) (l.take k) K)(I:QL P N ops w Qa (l.drop k) K'):QL P N ops w Qa l K:=by
 intro a F
 rw [←DZ k l]
 exact Sm (Uz (fun E h=>I E h) (J a F))
theorem WC.quiet{id:Nat}(hm:P.follows .mixedOrders=true)(F:Region.lexB .any l.toArray=true)(h:QL P N l.toArray w (fun I=>∀w',Bl w w'->Q .normal I w') l K):WC P N (.region id l.toArray true) Q K w:=
 fun a E=>wp_region_quiet (C:=fun w'=>Bl w w') hm F (Bl.drew w) (by simpa using h a E)
end
end
end Go.Eng
namespace Go.Eng
open Go Go.RowKit
/-! ## Data in memory -/
abbrev Iv(lo hi:Nat):Nat->Prop:=fun k=>lo<=k∧k<hi
structure FC(α:Type) where
 n:Nat
 rep:World->(Nat->Prop)->α->List Value->Prop
 len:∀{w S x vs},rep w S x vs->vs.length=n
 one:∀{w S x vs},rep w S x vs->vs.all Value.oneCell'=true
 mono:∀{w w' S S' x vs},rep w S x vs->(∀k,S k->S' k)->(∀k,S k->w'.heap[k]? =w.heap[k]?)->rep w' S' x vs
def CR(k:IntKind):FC Int where
 n:=1
 rep:=fun _ _ x vs=>vs=[.int k x]
 len:=fun h=>by rw [h];rfl
 one:=fun h=>by rw [h];rfl
 mono:=fun h _ _=>h
def Bx:FC Bool where
 n:=1
 rep:=fun _ _ x vs=>vs=[.bool x]
 len:=fun h=>by rw [h];rfl
 one:=fun h=>by rw [h];rfl
 mono:=fun h _ _=>h
def Bw:FC ByteArray where
 n:=1
 rep:=fun _ _ x vs=>vs=[.string x]
 len:=fun h=>by rw [h];rfl
 one:=fun h=>by rw [h];rfl
 mono:=fun h _ _=>h
def DL{α β:Type}(c:FC α)(d:FC β):FC (α×β) where
 n:=c.n+d.n
 rep:=fun w S x vs=>∃us ts,vs=us++ts∧c.rep w S x.1 us∧d.rep w S x.2 ts
 len:=fun⟨us,ts,e,h1,h2⟩=>by rw [e,CA,c.len h1,d.len h2]
 one:=fun⟨us,ts,e,h1,h2⟩=>by rw [e,List.all_append,c.one h1,d.one h2];rfl
 mono:=fun⟨us,ts,e,h1,h2⟩ a b=>⟨us,ts,e,c.mono h1 a b,d.mono h2 a b⟩
def Gj{α β:Type}(f:β->α)(c:FC α):FC β where
 n:=c.n
 rep:=fun w S x vs=>c.rep w S (f x) vs
 len:=fun h=>c.len h
 one:=fun h=>c.one h
 mono:=fun h a b=>c.mono h a b
def Ae{α:Type}(c:FC α)(w:World)(S:Nat->Prop)(xs:List α)(v:Value):Prop:=
 ∃a cap,v= .slice a xs.length cap∧(xs.length<=cap∧(a=none->cap=0))∧cap<=9223372036854775807∧
  (0<xs.length->∃b off,a=some ⟨b,off,none⟩∧S b∧∀i x,xs[i]? =some x->∃us,c.rep w S x us∧BK w b (off+i*c.n) us)
theorem Ae.mono{α:Type}{c:FC α}{w w':World}{S S':Nat->Prop}{xs:List α}{v:Value}(h:Ae c w S xs v)(J:∀k,S k->S' k)(hk:∀k,S k->w'.heap[k]? =w.heap[k]?):Ae c w' S' xs v:=by
 obtain⟨a,F,Z,W,h3,Y⟩:=h
 refine⟨a,F,Z,W,h3,fun hl=>?_⟩
 obtain⟨b,off,h5,I,U⟩:=Y hl
 refine⟨b,off,h5,J b I,fun i x hx=>?_⟩
 obtain⟨us,O,E⟩:=U i x hx
 exact⟨us,c.mono O J hk,E.block (hk b I)⟩
def HU{α:Type}(c:FC α):FC (List α) where
 n:=1
 rep:=fun w S xs vs=>∃v,vs=[v]∧Ae c w S xs v
 len:=fun⟨v,e,_⟩=>by rw [e];rfl
 one:=fun⟨v,e,a,cap,h,_⟩=>by rw [e,h];rfl
 mono:=fun⟨v,e,h⟩ ha hk=>⟨v,e,h.mono ha hk⟩
theorem Ae.old{α:Type}{c:FC α}{w w':World}{B lo hi:Nat}{xs:List α}{v:Value}(h:Ae c w (Iv lo hi) xs v)(E:Below B w w')(I:hi<=B):Ae c w' (Iv lo hi) xs v:=
 h.mono (fun _ h=>h) (fun k F=>E.block k (by have:=F.2;omega))
theorem Ae.wide{α:Type}{c:FC α}{w:World}{lo hi lo' hi':Nat}{xs:List α}{v:Value}(h:Ae c w (Iv lo hi) xs v)(E:lo'<=lo:=by omega)(h2:hi<=hi':=by omega):Ae c w (Iv lo' hi') xs v:=
 h.mono (fun k h=>⟨by have:=h.1;omega,by have:=h.2;omega⟩) (fun _ _=>rfl)
theorem Ae.upd{α:Type}{c:FC α}{w w':World}{b lo hi:Nat}{xs:List α}{v:Value}(h:Ae c w (Iv lo hi) xs v)(hu:JF b w w')(E:b<lo∨hi<=b):Ae c w' (Iv lo hi) xs v:=
 h.mono (fun _ h=>h) (fun k h=>hu.block k (by have:=h.1;have:=h.2;omega))
theorem FC.old{α:Type}(c:FC α){w w':World}{B lo hi:Nat}{x:α}{vs:List Value}(h:c.rep w (Iv lo hi) x vs)(E:Below B w w')(I:hi<=B):c.rep w' (Iv lo hi) x vs:=
 c.mono h (fun _ h=>h) (fun k F=>E.block k (by have:=F.2;omega))
theorem Ae.nil{α:Type}(c:FC α)(w:World)(S:Nat->Prop):Ae c w S [] (.slice none 0 0):=⟨none,0,rfl,⟨by simp,fun _=>rfl⟩,by simp,fun h=>by simp at h⟩
def AU{α:Type}(xs:List α)(i:Int):Option α:=if 0<=i then xs[i.toNat]? else none
theorem Gf{α:Type}{xs:List α}{i:Int}{x:α}(h:AU xs i=some x):0<=i∧i<xs.length∧xs[i.toNat]? =some x:=by
 unfold AU at h
 split at h
 ·rename_i E
  obtain⟨F,_⟩:=AR.1 h
  exact⟨E,by omega,h⟩
 ·cases h
section
variable {P:Program} {N:Nat}
def YE(P:Program)(N:Nat)(K:KL)(o:Oper)(w:World)(Ψ:Value->Prop):Prop:=∃v,HX P N K o w v∧Ψ v
section
variable {ops:Array Oper} {Q:Exit -> Act -> World -> Prop} {o:Oper} {rest l:List Oper} {K:KL} {w:World} {Qa:Act -> Prop} {Ψ:Value -> Prop}
theorem IR{t x i e b off n c k m sz}(ho:o.op= .indexAddr t x i)(hu:P.underlying t=some (.slice e))(hc:Cp P e=some sz)(O:ES K x=some (.slice (some ⟨b,off,none⟩) n c))
 (hi:ES K i=some (.int k m)) (I:0<=m) (F:m<n):HX P N K o w (.pointer (some ⟨b,off+m.toNat*sz,none⟩)):=by
 intro a E w' _
 obtain⟨i,hi2,J⟩:=BL.1 hc
 simp [execOp,ho,E.ev O,E.ev hi,Instr.indexAt,asIntOf,CO hu,I,F,sizeOf,typeInfo,hi2,J,Fa]
theorem Zm{α:Type}{c:FC α}{xs:List α}{y:α}{t x i e v k m S}(ho:o.op= .indexAddr t x i)(hu:P.underlying t=some (.slice e))(hc:Cp P e=some c.n)(hx:ES K x=some v)
 (hi2:ES K i=some (.int k m)) (hs:Ae c w S xs v) (hg:AU xs m=some y):
 YE P N K o w (fun u=>∃b off us,u= .pointer (some ⟨b,off,none⟩)∧S b∧c.rep w S y us∧BK w b off us):=by
 obtain⟨a,Y,rfl,h2,h3,O⟩:=hs
 obtain⟨U,I,E⟩:=Gf hg
 obtain⟨b,off,rfl,Z,W⟩:=O (by omega)
 obtain⟨us,J,F⟩:=W _ _ E
 exact⟨_,IR ho hu hc hx hi2 U I,b,_,us,rfl,Z,J,F⟩
theorem oE{α:Type}{c:FC α}{xs:List α}{t x e v S}(ho:o.op= .call { callee:=.builtin .len,args:=#[x],argTypes:=#[t] })(hu:P.underlying t=some (.slice e))(hx:ES K x=some v)(hs:Ae c w S xs v):
 HX P N K o w (.int .i64 xs.length):=by
 obtain⟨a,E,rfl,F,J,I⟩:=hs
 exact PO ho hu hx
end
section
variable {o:Oper} {K:KL} {w:World}
end
/-! ## What comes next -/
def NX(N:Nat)(Q:Exit->Act->World->Prop)(e:Exit)(K:KL)(w:World):Prop:=∀a,Kn N K a->Q e a w
section
variable {Q:Exit -> Act -> World -> Prop} {K:KL} {w:World} {f:Act -> World -> Prop} {ops:Array Oper}
theorem TL.done(h:NX N Q .normal K w):TL P N ops Q [] K w:=TL.nil h
theorem QL.done(h:∀w',Bl w w'->NX N Q .normal K w'):QL P N ops w (fun I=>∀w',Bl w w'->Q .normal I w') [] K:=QL.nil fun a E w' F=>h w' F a E
theorem WC.skip'(h:NX N Q .normal K w):WC P N .skip Q K w:=WC.skip h
theorem WC.exit'{id:Nat}(h:NX N Q (.exit id) K w):WC P N (.exit id) Q K w:=WC.exit h
theorem WC.ret'(h:NX N Q .ret K w):WC P N .ret Q K w:=WC.ret h
theorem NX.seq{y:Code}{E:Exit->Act->World->Prop}(h:WC P N y E K w):NX N (Exit.then (fun F w'=>y.wp P E F w') Q) .normal K w:=h
theorem NX.then_n(h:∀a,Kn N K a->f a w):NX N (Exit.then f Q) .normal K w:=h
theorem NX.then_e{id:Nat}(h:NX N Q (.exit id) K w):NX N (Exit.then f Q) (.exit id) K w:=h
theorem NX.then_r(h:NX N Q .ret K w):NX N (Exit.then f Q) .ret K w:=h
theorem NX.blk_n{id:Nat}(h:NX N Q .normal K w):NX N (Exit.inBlock id Q) .normal K w:=h
theorem NX.blk_r{id:Nat}(h:NX N Q .ret K w):NX N (Exit.inBlock id Q) .ret K w:=h
theorem NX.blk_hit{id:Nat}(h:NX N Q .normal K w):NX N (Exit.inBlock id Q) (.exit id) K w:=fun a E=>by
 show(if id=id then Q .normal a w else Q (.exit id) a w);rw [BE rfl];exact h a E
theorem NX.blk_miss{id E:Nat}(F:Nat.beq E id=false)(h:NX N Q (.exit E) K w):NX N (Exit.inBlock id Q) (.exit E) K w:=fun a I=>by
 have J:¬E=id:=fun e=>by subst e;simp at F
 show(if E=id then Q .normal a w else Q (.exit E) a w);rw [BU J];exact h a I
theorem NX.end{fn:Func}{rs vs R}(F:fn.results=rs.toArray)(ho:Rr P K w rs vs)(E:R (.returned (Hd vs)) w):NX N (bodyPost P fn R) .ret K w:=TY F ho E
theorem NX.end_n{fn:Func}{rs vs R}(F:fn.results=rs.toArray)(ho:Rr P K w rs vs)(E:R (.returned (Hd vs)) w):NX N (bodyPost P fn R) .normal K w:=TY (P:=P) F ho E
theorem DI{b ty T}{us:List Value}(F:Ei P ty=some true)(O:Cp P ty=some us.length)(I:Bu w b us T):(loadVar ty ⟨b,0,none⟩).run P w= .ok (.agg us.toArray) w:=by
 obtain⟨i,hi,J⟩:=BL.1 O
 have hl:(loadCells ⟨b,0,none⟩ us.length).run P w= .ok us.toArray w:=
  run_loadCells_list (P:=P) w ⟨b,0,none⟩ us (fun j v E=>by rw [Fa];exact(I.cells j v E).1)
 simp [loadVar,DP,KR F,sizeOf,typeInfo,hi,J,hl]
end
end
theorem Ae.one{α:Type}{c:FC α}{w:World}{S:Nat->Prop}{xs:List α}{v:Value}(h:Ae c w S xs v):v.oneCell'=true:=by
 obtain⟨a,E,rfl,_⟩:=h;rfl
theorem Ae.cells{α:Type}{c:FC α}{w:World}{S:Nat->Prop}{xs:List α}{v:Value}(h:Ae c w S xs v):v.cells= #[v]:=by
 obtain⟨a,E,rfl,_⟩:=h;rfl
theorem PY{α:Type}{b:Int}{a:Option α}{r:α}(h:(bif b==0 then none else a)=some r):b≠0∧a=some r:=by
 by_cases hb:b=0
 ·subst hb;cases h
 ·refine⟨hb,?_⟩
  have:(b==0)=false:=by simpa using hb
  rw [this]at h;exact h
theorem AY{α β:Type}{o:Option α}{f:α->Option β}{r:β}(h:Option.bind o f=some r):∃x,o=some x∧f x=some r:=by
 cases o with
 |none=>cases h
 |some x=>exact⟨x,rfl,h⟩
theorem Pi{α:Type}{c:Bool}{a b:Option α}{r:α}(h:c=true)(E:(bif c then a else b)=some r):a=some r:=by subst h;exact E
theorem PV{α:Type}{c:Bool}{a b:Option α}{r:α}(h:c=false)(E:(bif c then a else b)=some r):b=some r:=by subst h;exact E
end Go.Eng
namespace Go.Eng
open Go Go.RowKit
class Fy{α:Type}(c:FC α):Prop where
 any:∀{w w' S S' x vs},c.rep w S x vs->c.rep w' S' x vs
instance (k:IntKind):Fy (CR k):=⟨fun h=>h⟩
instance:Fy Bx:=⟨fun h=>h⟩
instance:Fy Bw:=⟨fun h=>h⟩
instance {α β:Type}(c:FC α)(d:FC β)[Fy c][Fy d]:Fy (DL c d):=⟨fun⟨us,ts,e,h1,h2⟩=>⟨us,ts,e,Fy.any h1,Fy.any h2⟩⟩
instance {α β:Type}(f:β->α)(c:FC α)[h:Fy c]:Fy (Gj f c):=⟨fun k=>h.any k⟩
def CG(cs:List Value)(n i:Nat):List Value:=(cs.drop (i*n)).take n
theorem DM{cs:List Value}{n i j:Nat}(E:j<n):(CG cs n i)[j]? =cs[i*n+j]?:=by
 unfold CG
 rw [Cm,BE E,Cv]
def AS{α:Type}(c:FC α)(w:World)(B:Nat)(S:Nat->Prop)(e:TypeId)(xs:List α)(v:Value):Prop:=
 ∃cs,w.ownsRow B e c.n v xs.length cs∧∀i x,xs[i]? =some x->c.rep w S x (CG cs c.n i)
section
variable {α:Type} {c:FC α} {w w':World} {B:Nat} {S S':Nat -> Prop} {e:TypeId} {xs:List α} {v:Value}
theorem AS.blk(h:AS c w B S e xs v):∀g,v.ownBlock=some g->B<=g∧g<w.heap.size:=by
 obtain⟨cs,E,_⟩:=h;exact E.lt
theorem AS.one(h:AS c w B S e xs v):v.oneCell'=true:=by
 obtain⟨cs,⟨_,⟨rfl,_⟩|⟨g,F,E,rfl,_⟩⟩,_⟩:=h<;>rfl
theorem AS.cells(h:AS c w B S e xs v):v.cells= #[v]:=by
 obtain⟨cs,⟨_,⟨rfl,_⟩|⟨g,F,E,rfl,_⟩⟩,_⟩:=h<;>rfl
theorem AS.base(h:AS c w B S e xs v){J:Nat}(Y:J<=B:=by omega):AS c w J S e xs v:=by
 obtain⟨cs,⟨U,F⟩,W⟩:=h
 refine⟨cs,⟨U,?_⟩,W⟩
 rcases F with F|⟨g,I,E,O,Z,rest⟩
 ·exact .inl F
 ·exact .inr ⟨g,I,E,O,by omega,rest⟩
theorem AS.nil(c:FC α)(w:World)(B:Nat)(S:Nat->Prop)(e:TypeId):AS c w B S e [] (.slice none 0 0):=
 ⟨[],World.ownsRow_nil w B e c.n,fun i x h=>by simp at h⟩
theorem AS.keep(h:AS c w B S e xs v)(Z:∀g,v.ownBlock=some g->w'.heap[g]? =w.heap[g]?)(O:∀k,S k->S' k)(hk:∀k,S k->w'.heap[k]? =w.heap[k]?):AS c w' B S' e xs v:=by
 obtain⟨cs,⟨U,F⟩,W⟩:=h
 refine⟨cs,⟨U,?_⟩,fun i x hx=>c.mono (W i x hx) O hk⟩
 rcases F with F|⟨g,I,E,rfl,Y,J,rest⟩
 ·exact .inl F
 ·exact .inr ⟨g,I,E,rfl,Y,(Z g rfl).trans J,rest⟩
theorem AS.ext[Fy c](h:AS c w B (Iv 0 0) e xs v)(F:Bl w w'):AS c w' B (Iv 0 0) e xs v:=
 h.keep (fun g E=>F.block g (h.blk g E).2) (fun _ h=>h) (fun k h=>absurd h.2 (AX k))
theorem AS.upd[Fy c]{b:Nat}(h:AS c w B (Iv 0 0) e xs v)(hu:JF b w w')(E:∀g,v.ownBlock=some g->g≠b):AS c w' B (Iv 0 0) e xs v:=
 h.keep (fun g F=>hu.block g (E g F)) (fun _ h=>h) (fun k h=>absurd h.2 (AX k))
theorem AS.sl(h:AS c w B S e xs v)(Y:∀k,S k->S' k)(hB:∀k,B<=k->k<w.heap.size->S' k):Ae c w S' xs v:=by
 obtain⟨cs,O,h3⟩:=h
 have h1:=O
 obtain⟨hl,⟨rfl,hn⟩|⟨g,I,U,rfl,hb,J,Z,W,h7,h8⟩⟩:=h1
 ·have:xs=[]:=CN hn
  subst this;exact Ae.nil _ _ _
 ·have F:g<w.heap.size:=(Ct.1 J).1
  refine⟨some ⟨g,0,none⟩,I,rfl,⟨Z,fun h=>by cases h⟩,by simpa [maxLen] using W,fun hpos=>⟨g,0,rfl,hB g hb F,fun i x hx=>⟨_,c.mono (h3 i x hx) Y (fun _ _=>rfl),fun j u hu=>?_⟩⟩⟩
  have E:j<c.n:=by
   have:=(AR.1 hu).1
   simp [CG]at this;omega
  rw [DM E]at hu
  have:=O.cells (g:=g) rfl _ _ hu
  rw [Fa]at this
  rw [show 0+i*c.n+j=0+(i*c.n+j) by omega];exact⟨this,by simp [World.frozen?,J]⟩
theorem AS.slf[Fy c]{lo hi:Nat}(h:AS c w B (Iv 0 0) e xs v)(E:lo<=B:=by omega)(h2:w.heap.size<=hi:=by omega):Ae c w (Iv lo hi) xs v:=
 h.sl (fun k h=>absurd h.2 (AX k)) (fun k I F=>⟨by omega,by omega⟩)
end
theorem Un{α:Type}{xs:List α}{i j:Nat}{y x:α}(h:(xs.set i y)[j]? =some x):(i=j∧x=y)∨(i≠j∧xs[j]? =some x):=by
 rw [EQ]at h
 split at h
 ·rename_i e;subst e
  split at h
  ·injection h with h;exact .inl ⟨rfl,h.symm⟩
  ·cases h
 ·rename_i e;exact .inr ⟨e,h⟩
def KW(cs:List Value)(p:Nat)(us:List Value):List Value:=cs.take p++us++cs.drop (p+us.length)
theorem Pw{cs us:List Value}{p:Nat}(h:p+us.length<=cs.length):(KW cs p us).length=cs.length:=by
 simp [KW];omega
theorem Km{cs us:List Value}{p k:Nat}(h:p+us.length<=cs.length):(KW cs p us)[k]? =if p<=k∧k<p+us.length then us[k-p]? else cs[k]?:=by
 have E:(cs.take p).length=p:=by simp;omega
 unfold KW
 by_cases h1:k<p
 ·rw [BU (by omega),Ci,BA (by omega),Cm,BE h1]
 ·by_cases h2:k<p+us.length
  ·rw [BE (by omega),Ci,BI (by omega),E,BA (by omega)]
  ·rw [BU (by omega),BI (by simp;omega),Cv]
   congr 1
   simp;omega
section
variable {P:Program} {N:Nat} {α:Type} {c:FC α} {w:World} {B:Nat} {S:Nat -> Prop} {e:TypeId} {xs:List α} {v:Value} {o:Oper} {K:KL}
theorem WH{t x}(ho:o.op= .call { callee:=.builtin .len,args:=#[x],argTypes:=#[t] })(hu:P.underlying t=some (.slice e))(hx:ES K x=some v)(hs:AS c w B S e xs v):
 HX P N K o w (.int .i64 xs.length):=by
 obtain⟨cs,⟨_,⟨rfl,I⟩|⟨g,F,E,rfl,_⟩⟩,_⟩:=hs
 ·have:=PO (N:=N) (w:=w) ho hu hx;rw [I];exact this
 ·exact PO ho hu hx
theorem QZ{y:α}{t x i k m}(ho:o.op= .indexAddr t x i)(hu:P.underlying t=some (.slice e))(hc:Cp P e=some c.n)(hx:ES K x=some v)
 (hi2:ES K i=some (.int k m)) (hs:AS c w B S e xs v) (I:AU xs m=some y):
 YE P N K o w (fun u=>∃g us,u= .pointer (some ⟨g,0+m.toNat*c.n,none⟩)∧v.ownBlock=some g∧c.rep w S y us∧BK w g (0+m.toNat*c.n) us):=by
 obtain⟨cs,F,h3⟩:=hs
 obtain⟨O,Z,J⟩:=Gf I
 have W:=F
 obtain⟨hl,⟨rfl,hn⟩|⟨g,U,Y,rfl,hb,hh,h5,h6,h7,h8⟩⟩:=W
 ·omega
 ·refine⟨_,IR ho hu hc hx hi2 O Z,g,_,rfl,rfl,h3 _ _ J,fun j u hu=>?_⟩
  have E:j<c.n:=by
   have:=(AR.1 hu).1
   simp [CG]at this;omega
  rw [DM E]at hu
  have:=F.cells (g:=g) rfl _ _ hu
  rw [Fa]at this
  rw [show 0+m.toNat*c.n+j=0+(m.toNat*c.n+j) by omega];exact⟨this,by simp [World.frozen?,hh]⟩
theorem Bc{t x y u g m us us' y0 y'}(j off:Nat)(ho:o.op= .store t x y)(hx:ES K x=some (.pointer (some ⟨g,off,none⟩)))(hy:ES K y=some u)(hs:AS c w B S e xs v)
 (hg:v.ownBlock=some g) (hm:AU xs m=some y0) (c3:off=0+m.toNat*c.n+j) (hn:Cp P t=some u.cells.toList.length) (h1:u.cells.toList.all Value.oneCell'=true) (b1:c.rep w S y0 us)
 (b8:BK w g (0+m.toNat*c.n) us)
 (J:us'=KW us j u.cells.toList) (E:Nat.ble (j+u.cells.toList.length) us.length=true) (W:c.rep w S y' us') (hS:∀k,S k->k≠g):
 Jv P N K o w (fun _ w'=>JF g w w'∧AS c w' B S e (xs.set m.toNat y') v):=by
 obtain⟨cs,h0,h3⟩:=hs
 obtain⟨g0,g1,g2⟩:=Gf hm
 have b7:=h0
 obtain⟨hl,⟨rfl,_⟩|⟨g',b0,O,rfl,hb,hh,h5,h6,h7,h8⟩⟩:=b7
 ·simp [Value.ownBlock]at hg
 simp [Value.ownBlock]at hg
 subst hg
 have E:=FJ E
 have c1:us.length=c.n:=c.len b1
 have b6:(m.toNat+1)*c.n<=xs.length*c.n:=CC _ (by omega)
 rw [Cy]at b6
 have b9:xs.length*c.n<=b0*c.n:=CC _ h5
 obtain⟨ti,hi,hsz⟩:=BL.1 hn
 have I:=run_storeCells_at P g' off e u.cells.toList 0 O w hh (by rw [h7];omega) (CX.1 h1)
 simp only [HA]at I
 intro a hK Kt Q hk
 have hr:(execOp a.eval o).run P w= .ok .skip (w.setRow g' (KW O.toList off u.cells.toList).toArray):=by
  simp [execOp,ho,hK.ev hx,hK.ev hy,Instr.storeAt,Instr.sureAddr,storeVar,DP,sizeOf,typeInfo,hi,hsz,KW]at I ⊢
  rw [I]
  simp
 unfold Oper.wp
 rw [hr]
 clear hr I h1 hy hsz hn ho
 revert J E hk
 generalize u.cells.toList=F
 intro J E hk
 refine hk _ _ ⟨JF.setRow _ _ _,KW cs off F,⟨?_,.inr ⟨g',b0,_,by simp,hb,setRow_heap w g' O _ e _ hh,by simpa using h5,h6,?_,?_⟩⟩,?_⟩
 ·rw [Pw (by rw [hl];omega),hl];simp
 ·have:=Pw (cs:=O.toList) (us:=F) (p:=off) (by simp [h7];omega)
  simp only [List.size_toArray,this];simpa using h7
 ·apply Cl
  intro k
  rw [Er]
  simp only [List.toList_toArray]
  rw [Cm,Km (cs:=cs) (by rw [hl];omega)]
  split
  ·rename_i a0
   rw [Km (by simp [h7];omega)]
   split
   ·rfl
   ·rw [←h8,Cm,BE a0]
  ·rename_i a0
   rw [BU (by omega)]
   symm;rw [BM];omega
 ·intro i x b2
  rcases Un b2 with ⟨rfl,rfl⟩|⟨b3,Z⟩
  ·have e1:CG (KW cs off F) c.n m.toNat=us':=by
    apply Cl
    intro q
    by_cases hq:q<c.n
    ·rw [DM hq,Km (by rw [hl];omega),J,Km (by omega)]
     have b4:cs[m.toNat*c.n+q]? =us[q]?:=by
      have a1:us[q]? =some (us[q]'(by omega)):=AK _
      have a2:=(b8 q _ a1).1
      have U:m.toNat*c.n+q<cs.length:=by rw [hl];omega
      have a3:=h0.cells (g:=g') rfl (m.toNat*c.n+q) _ (AK U)
      rw [Fa]at a3
      rw [show 0+m.toNat*c.n+q=0+(m.toNat*c.n+q) by omega,a3]at a2
      rw [a1,AK U];exact a2
     split
     ·rename_i b5
      rw [BE (by omega)];congr 1;omega
     ·rename_i b5
      rw [BU (by omega)];exact b4
    ·rw [BM (by simp [CG];omega),BM]
     rw [J,Pw (by omega)];omega
   rw [e1]
   exact c.mono W (fun _ h=>h) (fun k Y=>setRow_other _ _ _ _ (hS k Y))
  ·have e1:CG (KW cs off F) c.n i=CG cs c.n i:=by
    have c0:i<xs.length:=(AR.1 Z).1
    apply Cl
    intro q
    by_cases hq:q<c.n
    ·rw [DM hq,DM hq,Km (by rw [hl];omega)]
     rw [BU]
     rcases Nat.lt_or_gt_of_ne b3 with h|h
     ·have:(m.toNat+1)*c.n<=i*c.n:=CC _ h
      rw [Cy]at this;omega
     ·have:(i+1)*c.n<=m.toNat*c.n:=CC _ h
      rw [Cy]at this;omega
    ·rw [BM (by simp [CG];omega),BM (by simp [CG];omega)]
   rw [e1]
   exact c.mono (h3 i x Z) (fun _ h=>h) (fun k Y=>setRow_other _ _ _ _ (hS k Y))
/-! ### make -/
def QS(m:Int)(bytes:Nat):Option Nat:=if 0<=m∧m*bytes<=281474976710656∧m<=9223372036854775807 then some m.toNat else none
def Ft(P:Program)(t:Nat):Option (List Value×Nat×Nat):=(P.info? t).bind fun i=>i.zero.map fun z=>(z.cells.toList,i.size,i.bytes)
theorem SU{zs:List Value}{k i:Nat}(hi:i<k)(hz:0<zs.length):CG (madeCells zs.toArray (k*zs.length)).toList zs.length i=zs:=by
 apply Cl
 intro q
 by_cases hq:q<zs.length
 ·rw [DM hq]
  have:(i+1)*zs.length<=k*zs.length:=CC _ hi
  rw [Cy]at this
  simp only [madeCells,Array.toList_map,Array.toList_range,FR]
  rw [List.getElem?_range (by omega)]
  simp [Nat.mul_add_mod_self_right,Nat.mod_eq_of_lt hq,hq]
 ·rw [BM (by simp [CG];omega),BM (by omega)]
theorem GI{t l c2 zs sz by' m m' k z kd kd'}(ho:o.op= .makeSlice t l c2)(hu:P.underlying t=some (.slice e))(hi:Ft P e=some (zs,sz,by'))(hl:ES K l=some (.int kd m))(hc:ES K c2=some (.int kd' m'))(hmm:m'=m)
 (hk:QS m by'=some k) (hsz:sz=c.n) (hpos:Nat.blt 0 c.n=true) (hz:∀w,c.rep w (Iv 0 0) z zs):
 Jv P N K o w (fun u w'=>∃g,u= .slice (some ⟨g,0,none⟩) k k∧g=w.heap.size∧w'.heap.size=w.heap.size+1∧Bl w w'∧AS c w' g (Iv 0 0) e (List.replicate k z) u):=by
 subst hmm
 unfold Ft at hi
 obtain⟨i,hi1,hi2⟩:=Dp.1 hi
 obtain⟨I,O,E⟩:=BL.1 hi2
 simp only [EE]at E
 obtain⟨e1,e2,e3⟩:=E
 unfold QS at hk
 split at hk
 ·rename_i hm
  injection hk with hk
  have F:zs.length=c.n:=c.len (hz w)
  have hr:=run_make (P:=P) w t e i I hu hi1 O kd kd' m' m' hm.1 (Gt _) (by rw [e3,Int.mul_comm];exact hm.2.1) hm.2.2
  intro a hK Kt Q Y
  have J:(execOp a.eval o).run P w= .ok (.value (.slice (some ⟨w.heap.size,0,none⟩) m'.toNat m'.toNat)) (w.alloc (.cells (madeCells I.cells (m'.toNat*i.size)) e)):=by
   simp [execOp,ho,hK.ev hl,hK.ev hc,hr]
  unfold Oper.wp
  rw [J]
  refine Y _ _ ⟨w.heap.size,by rw [hk],rfl,by simp,Bl.alloc _ _,?_⟩
  have hp:0<c.n:=by have h:=hpos;simp [Nat.blt]at h;omega
  have U:I.cells=zs.toArray:=by rw [←e1]
  refine⟨(madeCells I.cells (m'.toNat*i.size)).toList,⟨?_,.inr ⟨w.heap.size,k,_,by rw [GB,hk],Bj _,heap_alloc_new w _,by simp,by simp only [maxLen];omega,?_,?_⟩⟩,?_⟩
  ·simp [HH,e2,hsz,hk]
  ·simp [HH,e2,hsz,hk]
  ·rw [List.take_of_length_le];simp [HH,e2,hsz,hk]
  ·intro q x hx
   have Z:q<k:=by have:=(AR.1 hx).1;simpa using this
   have W:x=z:=by simpa [Z] using hx.symm
   subst W
   rw [U,e2,hsz,←F,hk,SU Z (by omega)]
   exact c.mono (hz w) (fun _ h=>h) (fun k h=>absurd h.2 (AX k))
 ·cases hk
end
end Go.Eng
namespace Go.Eng
open Go Go.RowKit
/-! ## append, literals -/
def EU{α:Type}(xs ys:List α)(bytes:Nat):Option (List α):=if (xs.length+ys.length)*bytes<=140737488355328∧xs.length+ys.length<=9223372036854775807 then some (xs++ys)else none
def Dh:List (List Value)->List Value
 |[]=>[]
 |us::uss=>us++Dh uss
theorem KK{n:Nat}:∀{uss:List (List Value)},(∀us∈uss,us.length=n)->(Dh uss).length=uss.length*n
 |[],_=>by simp [Dh]
 |us::uss,h=>by
  simp only [Dh,CA,DO,Cy]
  rw [h us (Co ..),KK (fun x E=>h x (Dx _ E))]
  omega
theorem NZ{n:Nat}:∀{uss:List (List Value)} {i q:Nat} {us:List Value},(∀us∈uss,us.length=n)->uss[i]? =some us->q<n->(Dh uss)[i*n+q]? =us[q]?
 |[],i,q,us,_,h,_=>by simp at h
 |u0::uss,0,q,us,hl,h,hq=>by
  simp at h;subst h
  simp only [Dh]
  rw [BA (by rw [hl u0 (Co ..)];omega)]
  congr 1;omega
 |u0::uss,i+1,q,us,hl,h,hq=>by
  have E:=hl u0 (Co ..)
  simp only [Dh]
  rw [BI (by rw [E,Cy];omega)]
  have:=NZ (uss:=uss) (i:=i) (q:=q) (fun x F=>hl x (Dx _ F)) (by simpa using h) hq
  rw [←this]
  congr 1
  rw [E,Cy];omega
theorem Pa{n:Nat}{uss:List (List Value)}{i:Nat}{us:List Value}(hl:∀us∈uss,us.length=n)(h:uss[i]? =some us):CG (Dh uss) n i=us:=by
 have E:=hl us (Dw h)
 apply Cl
 intro q
 by_cases hq:q<n
 ·rw [DM hq,NZ hl h hq]
 ·rw [BM (by simp [CG];omega),BM (by omega)]
theorem Ae.all'{α:Type}{c:FC α}{w:World}{S:Nat->Prop}{xs:List α}{v:Value}(h:Ae c w S xs v)(hn:0<c.n):
 ∃uss:List (List Value),uss.length=xs.length∧(∀us∈uss,us.length=c.n)∧(∀(i:Nat) (x:α) (us:List Value),xs[i]? =some x->uss[i]? =some us->c.rep w S x us)∧
  ∃(a:Option Addr) (F:Nat),v= .slice a xs.length F∧(a=none->F=0)∧(xs.length=0∨∃b off,a=some ⟨b,off,none⟩∧S b∧∀j u,(Dh uss)[j]? =some u->w.cell? ⟨b,off+j,none⟩=some u):=by
 obtain⟨a,F,rfl,W,h3,h4⟩:=h
 by_cases hl:0<xs.length
 ·obtain⟨b,off,rfl,hb,h5⟩:=h4 hl
  have U:∀i,i<xs.length->∃us,∀x,xs[i]? =some x->c.rep w S x us∧BK w b (off+i*c.n) us:=by
   intro i hi
   obtain⟨us,h6⟩:=h5 i _ (AK hi)
   refine⟨us,fun x J=>?_⟩
   have:x=xs[i]:=by rw [AK hi]at J;exact(Ai J).symm
   subst this;exact h6
  obtain⟨f,O⟩:=Go.Deep.choose_lt U
  have I:∀us∈(List.range xs.length).map f,us.length=c.n:=by
   intro us E
   obtain⟨i,hi,rfl⟩:=ED.1 E
   exact c.len (O i (FG.1 hi) _ (AK (FG.1 hi))).1
  refine⟨(List.range xs.length).map f,by simp,I,?_,some ⟨b,off,none⟩,F,rfl,W.2,.inr ⟨b,off,rfl,hb,?_⟩⟩
  ·intro i x us J E
   have hi:i<xs.length:=(AR.1 J).1
   simp [hi]at E;subst E
   exact(O i hi x J).1
  ·intro j u hu
   have hj:j<xs.length*c.n:=by
    have:=(AR.1 hu).1
    rw [KK I]at this;simpa using this
   have hi:j/c.n<xs.length:=Nat.div_lt_of_lt_mul (by rw [Nat.mul_comm];exact hj)
   have Z:j/c.n*c.n+j%c.n=j:=by rw [Nat.mul_comm];exact Nat.div_add_mod j c.n
   have Y:=NZ (uss:=(List.range xs.length).map f) (i:=j/c.n) (q:=j%c.n) (us:=f (j/c.n)) I (by simp [hi]) (Nat.mod_lt _ hn)
   rw [Z,hu]at Y
   have:=(O _ hi _ (AK hi)).2 (j%c.n) u Y.symm
   rw [show off+j/c.n*c.n+j%c.n=off+j by omega]at this;exact this.1
 ·refine⟨[],by simp;omega,by simp,fun i x us J E=>by simp at E,a,F,rfl,W.2,.inl (by omega)⟩
theorem Xr{P:Value->Bool}:∀{uss:List (List Value)},(∀us∈uss,us.all P=true)->∀u∈Dh uss,P u=true
 |[],_=>by simp [Dh]
 |us::uss,h=>by
  intro u hu
  simp only [Dh,CM]at hu
  rcases hu with hu|hu
  ·exact CX.1 (h us (Co ..)) u hu
  ·exact Xr (fun x E=>h x (Dx _ E)) u hu
section
variable {P:Program} {N:Nat} {α:Type} {c:FC α} {w:World} {B:Nat} {S S' S2:Nat -> Prop} {e:TypeId} {xs ys zs:List α} {v:Value} {o:Oper} {K:KL}
def Ev(w w':World)(v v':Value):Prop:=w.grownBy w' v.ownBlock∧∀g,v'.ownBlock=some g->v.ownBlock=some g∨w.heap.size<=g
theorem QM{t x y u zc sz by'}(ho:o.op= .call { callee:=.builtin .append,args:=#[x,y],argTypes:=#[t,t] })(hu:P.underlying t=some (.slice e))(hi:Ft P e=some (zc,sz,by'))(hsz:sz=c.n)(hzc:zc.length=sz)
 (hpos:Nat.blt 0 c.n=true) (hx:ES K x=some v) (hy:ES K y=some u) (hs:AS c w B S e xs v) (hb:B<=w.heap.size) (hr:Ae c w S2 ys u) (ha:EU xs ys by'=some zs)
 (hS:∀k,S k->S' k) (hS2:∀x us,c.rep w S2 x us->c.rep w S' x us) (hS3:∀k,S' k->k<w.heap.size∧v.ownBlock≠some k):
 Jv P N K o w (fun v' w'=>AS c w' B S' e zs v'∧Ev w w' v v'):=by
 have hp:0<c.n:=by have h:=hpos;simp [Nat.blt]at h;omega
 obtain⟨cs,h0,h3⟩:=hs
 obtain⟨uss,b5,c9,c3,a,Z,rfl,b4,O⟩:=Ae.all' hr hp
 unfold Ft at hi
 obtain⟨i,hi1,hi2⟩:=Dp.1 hi
 obtain⟨z,b8,c5⟩:=BL.1 hi2
 simp only [EE]at c5
 obtain⟨e1,e2,e3⟩:=c5
 unfold EU at ha
 split at ha
 case isFalse=>cases ha
 rename_i b2
 injection ha with ha;subst ha
 intro a' hK Kt Q hk
 have a0:(Dh uss).length=ys.length*c.n:=by rw [KK c9,b5]
 have W:∀(w':World),w.grownBy w' v.ownBlock->∀q x,(xs++ys)[q]? =some x->c.rep w' S' x (CG (cs++Dh uss) c.n q):=by
  intro w' J q x I
  have keep:∀k,S' k->w'.heap[k]? =w.heap[k]?:=fun k hk=>J.block k (hS3 k hk).1 (fun e=>(hS3 k hk).2 e.symm)
  by_cases hq:q<xs.length
  ·rw [BA hq]at I
   have e4:CG (cs++Dh uss) c.n q=CG cs c.n q:=by
    apply Cl
    intro j
    by_cases hj:j<c.n
    ·rw [DM hj,DM hj,BA]
     have:(q+1)*c.n<=xs.length*c.n:=CC _ hq
     rw [Cy]at this;rw [h0.1];omega
    ·rw [BM (by simp [CG];omega),BM (by simp [CG];omega)]
   rw [e4];exact c.mono (h3 q x I) hS (fun k hk=>keep k (hS k hk))
  ·rw [BI (by omega)]at I
   have d0:q-xs.length<uss.length:=by rw [b5];exact(AR.1 I).1
   have e4:CG (cs++Dh uss) c.n q=uss[q-xs.length]:=by
    have:=Pa (i:=q-xs.length) c9 (AK d0)
    rw [←this]
    apply Cl
    intro j
    by_cases hj:j<c.n
    ·rw [DM hj,DM hj]
     have h5:xs.length*c.n<=q*c.n:=CC _ (by omega)
     rw [BI (by rw [h0.1];omega)]
     congr 1
     rw [h0.1,Nat.sub_mul];omega
    ·rw [BM (by simp [CG];omega),BM (by simp [CG];omega)]
   rw [e4];exact c.mono (hS2 _ _ (c3 _ x _ I (AK d0))) (fun _ h=>h) (fun k hk=>keep k hk)
 have b3:z.cells.size=c.n:=by rw [←hsz,←hzc,←e1];simp
 have one:∀u∈Dh uss,u.oneCell'=true:=Xr fun us d2=>by
  obtain⟨q,hq,rfl⟩:=GN.1 d2
  exact c.one (c3 q _ _ (AK (by omega)) (AK hq))
 have step:∀v' w',(Builtin.append_ #[t,t] o.type #[v,.slice a ys.length Z]).run P w= .ok v' w'->(execOp a'.eval o).run P w= .ok (.value v') w':=by
  intro v' w' E
  unfold execOp
  simp only [ho,resolve,invoke,builtin,DP,Sem.run_pure,GG,List.map_toArray,Gk,List.map_nil,hK.ev hx,hK.ev hy,E]
 cases a with
 |none=>
  have d1:=b4 rfl
  subst d1
  have d4:ys.length=0:=by
   rcases O with h|⟨b,off,h,_⟩
   ·exact h
   ·cases h
  have d3:ys=[]:=CN d4
  subst d3
  have E:=run_append_owned_none (P:=P) w B t o.type e i c.n hu hi1 v xs.length cs h0
  unfold Oper.wp
  rw [step v w E]
  have J:w.grownBy w v.ownBlock:=World.grownBy.refl w _
  have c8:uss=[]:=CN (by simpa using b5)
  subst c8
  refine hk _ _ ⟨⟨cs,by simpa using h0,fun q x I=>?_⟩,J,fun g hg=>.inl hg⟩
  have:=W w J q x I
  simpa [Dh] using this
 |some ad=>
  have F:∀j u,(Dh uss)[j]? =some u->w.cell? (ad.add j)=some u:=by
   intro j u c1
   rcases O with h|⟨b,off,h,_,h5⟩
   ·have:uss=[]:=CN (by omega)
    subst this;simp [Dh]at c1
   ·injection h with h;subst h
    rw [Fa];exact h5 j u c1
  have b9:(xs.length+ys.length)*by'<=140737488355328:=b2.1
  obtain⟨v',w',E,c0,J,_⟩:=run_append_own (P:=P) w B t o.type e i z c.n by' hu hi1 b8 (by rw [e2,hsz]) e3 b3 hp v xs.length cs h0 ad ys.length Z (Dh uss) a0 F one (by simp only [maxLen];omega) b9 hb
  have b1:∀g,v'.ownBlock=some g->v.ownBlock=some g∨w.heap.size<=g:=by
   rcases h0.2 with ⟨rfl,hn⟩|⟨g0,Y,c4,rfl,d5,hh,h5,h6,h7,h8⟩
   ·have c6:w.ownsRow w.heap.size e c.n (.slice none 0 0) xs.length cs:=⟨h0.1,.inl ⟨rfl,hn⟩⟩
    obtain⟨v2,w2,b0,b6,_⟩:=run_append_own (P:=P) w w.heap.size t o.type e i z c.n by' hu hi1 b8 (by rw [e2,hsz]) e3 b3 hp _ xs.length cs c6 ad ys.length Z (Dh uss) a0 F one (by simp only [maxLen];omega) b9 (Bj _)
    rw [E]at b0
    injection b0 with e5 e6
    subst e5
    intro g hg;exact .inr (b6.lt g hg).1
   ·by_cases hroom:xs.length+ys.length<=Y
    ·have c7:xs.length*i.size+(Dh uss).length<=c4.size:=by
      rw [a0,h7,e2,hsz,←Cy];exact CC _ hroom
     have U:=run_append_room (P:=P) w t o.type e i hu hi1 g0 xs.length Y c4 hh ad ys.length Z (Dh uss) (by rw [e2,hsz];exact a0) F one hroom c7
     rw [E]at U
     injection U with e5 e6
     subst e5
     intro g hg;exact .inl hg
    ·have b7:∀j u,cs[j]? =some u->w.cell? ((⟨g0,0,none⟩:Addr).add j)=some u:=h0.cells (g:=g0) rfl
     have U:=run_append_grow (P:=P) w t o.type e i z hu hi1 b8 ⟨g0,0,none⟩ xs.length Y cs (by rw [e2,hsz];exact h0.1) b7 ad ys.length Z (Dh uss) (by rw [e2,hsz];exact a0) F (by omega) (by omega) (growslice_fits (by omega) (by rw [e3];exact b9))
     rw [E]at U
     injection U with e5 e6
     subst e5
     intro g hg
     simp [Value.ownBlock]at hg
     exact .inr (by omega)
  unfold Oper.wp
  rw [step v' w' E]
  exact hk _ _ ⟨⟨cs++Dh uss,by simpa using c0,W w' J⟩,J,b1⟩
end
end Go.Eng
namespace Go.Eng
open Go Go.RowKit
/-! ## Literals -/
def OP(pl:List (Nat×Nat)):List Value->List (Nat×List Value)->Option (List Value)
 |zs,[]=>some zs
 |zs,(i,us)::ps=>match pl[i]? with
  |none=>none
  |some (off,size)=>if Nat.beq us.length size&&Nat.ble (off+us.length) zs.length then OP pl (zs.take off++us++zs.drop (off+us.length)) ps else none
theorem ZA(us:List Value):∀(off k:Nat) (cs:Array Value),off+k+us.length<=cs.size->
 ((us.zipIdx k).foldl (fun cs (p:Value×Nat)=>cs.setIfInBounds (off+p.2) p.1) cs).toList=cs.toList.take (off+k)++us++cs.toList.drop (off+k+us.length):=by
 induction us with
 |nil=>intro off k cs h;simp
 |cons u us F=>
  intro off k cs h
  simp only [DO]at h
  simp only [List.zipIdx_cons,List.foldl_cons]
  rw [F off (k+1) _ (by simp;omega)]
  apply Cl
  intro j
  simp only [Array.toList_setIfInBounds,DO]
  have e1:off+(k+1)=off+k+1:=by omega
  have e2:off+k+1+us.length=off+k+(us.length+1):=by omega
  rw [e1,e2]
  have hl:(cs.toList.take (off+k)).length=off+k:=by simp;omega
  have E:((cs.toList.set (off+k) u).take (off+k+1)).length=off+k+1:=by simp;omega
  by_cases h1:j<off+k
  ·rw [Ci,BA (by omega),Ci,BA (by omega),Cm,Cm,BE (by omega),BE h1,List.getElem?_set_ne (by omega)]
  ·by_cases h2:j=off+k
   ·subst h2
    rw [Ci,BA (by omega),Ci,BI (by omega),hl,Cm,BE (by omega),List.getElem?_set_self (by simp;omega)]
    simp
   ·by_cases h3:j<off+k+(us.length+1)
    ·rw [Ci,BI (by omega),E,BA (by omega),Ci,BI (by omega),hl,List.cons_append,show j-(off+k)=(j-(off+k+1))+1 by omega,List.getElem?_cons_succ,BA (by omega)]
    ·rw [BI (by simp;omega),BI (by simp;omega),Cv,Cv]
     simp only [CA,hl,E,DO]
     rw [List.getElem?_set_ne (by omega)]
     congr 1;omega
theorem SN{place:Nat->Option (Nat×Nat)}{pl:List (Nat×Nat)}(J:∀i x,pl[i]? =some x->place i=some x):∀(E:List (Nat×Value)) (uss:List (Nat×List Value)) (cs:Array Value) (out:List Value),
 E.map (fun p=>(p.1,p.2.cells.toList))=uss->OP pl cs.toList uss=some out->Instr.fill place cs E=some out.toArray
 |[],uss,cs,out,h,hf=>by
  simp at h;subst h
  simp [OP]at hf;subst hf
  simp [Instr.fill]
 |(i,v)::E,uss,cs,out,h,hf=>by
  simp at h;subst h
  simp only [OP]at hf
  split at hf
  ·cases hf
  ·rename_i off size F
   split at hf
   ·rename_i hc
    simp only [AG,GX]at hc
    have I:v.cells.size=size:=Bh hc.1
    have O:off+v.cells.size<=cs.size:=FJ hc.2
    rw [Instr.fill,J i _ F]
    simp only
    rw [BU (by simp [I];omega)]
    refine SN J E _ _ out rfl ?_
    have:=ZA v.cells.toList off 0 cs (by simp;omega)
    have e:(v.cells.zipIdx.foldl (fun cs (p:Value×Nat)=>cs.setIfInBounds (off+p.2) p.1) cs).toList=cs.toList.take off++v.cells.toList++cs.toList.drop (off+v.cells.toList.length):=by
     rw [←Array.foldl_toList,Array.toList_zipIdx]
     simpa using this
    rw [e];exact hf
   ·cases hf
def Ew(P:Program)(t:Nat):Option (List (Nat×Nat)):=
 match P.underlying t with
 |some (.struct fs)=>fs.toList.mapM fun f=>(P.info? f.type).map fun i=>(f.offset,i.size)
 |some (.array n e)=>(P.info? e).map fun i=>(List.range n).map fun k=>(k*i.size,i.size)
 |_=>none
def NO(K:KL):List (Nat×Operand)->Option (List (Nat×Value))
 |[]=>some []
 |(i,x)::xs=>match ES K x,NO K xs with|some v,some vs=>some ((i,v)::vs)|_,_=>none
section
variable {P:Program} {N:Nat} {α:Type} {c:FC α} {w:World} {B:Nat} {S S':Nat -> Prop} {e:TypeId} {xs ys zs:List α} {v:Value} {o:Oper} {K:KL}
theorem Kn.parts{a}(h:Kn N K a):∀{xs vs},NO K xs=some vs->xs.map (fun(p:Nat×Operand)=>(p.1,a.eval p.2))=vs
 |[],vs,e=>by simp [NO]at e;subst e;rfl
 |(i,x)::xs,vs,e=>by
  unfold NO at e
  split at e
  ·rename_i v I E F
   injection e with e;subst e
   simp [h.ev E,h.parts F]
  ·cases e
theorem XI{fs:List Field}{pl:List (Nat×Nat)}(h:fs.mapM (fun f=>(P.info? f.type).map fun i=>(f.offset,i.size))=some pl)(w:World):
 (fs.mapM (m:=Sem) fun f=>do pure (f.offset,←sizeOf f.type)).run P w= .ok pl w:=by
 induction fs generalizing pl with
 |nil=>simp at h;subst h;simp
 |cons f fs F=>
  simp only [List.mapM_cons,Option.bind_eq_bind,Dp,Option.pure_def,EO]at h
  obtain⟨p,E,J,I,rfl⟩:=h
  obtain⟨i,hi,rfl⟩:=BL.1 E
  have:=F I
  simp [List.mapM_cons,sizeOf,typeInfo,hi]at this ⊢
  simp [this]
theorem Bo{t parts vs uss zc pl out}(ho:o.op= .build t parts)(hp:NO K parts.toList=some vs)(hz:GQ P t=some zc)(I:Ew P t=some pl)
 (hu:vs.map (fun p=>(p.1,p.2.cells.toList))=uss) (hf:OP pl zc uss=some out):HX P N K o w (.agg out.toArray):=by
 intro a hK w' _
 have e1:=hK.parts hp
 unfold GQ at hz
 obtain⟨i,hi,Y⟩:=Dp.1 hz
 obtain⟨z,U,W⟩:=BL.1 Y
 have ep:(parts.map fun(p:Nat×Operand)=>(p.1,a.eval p.2)).toList=vs:=by rw [Array.toList_map];exact e1
 unfold Ew at I
 split at I
 ·rename_i fs J
  have hr:=XI I w'
  have E:=SN (place:=fun i=>pl[i]?) (pl:=pl) (fun i x h=>h) vs uss z.cells out hu (by rw [W];exact hf)
  simp only [execOp,ho,Instr.build,zeroValue,typeInfo,DP,GG,Sem.run_pure,CO J]
  have hm:(fs.mapM (m:=Sem) fun f=>do pure (f.offset,←sizeOf f.type)).run P w'= .ok pl.toArray w':=by
   rw [show fs=fs.toList.toArray by simp,List.mapM_toArray]
   have O:=hr
   simp at O ⊢
   simp [O]
  simp [hi,U]
  simp at hm
  rw [hm]
  have F:(Array.map (fun x=>(x.fst,a.eval x.snd)) parts).toList=vs:=ep
  simp at F
  simp [F,E]
 ·rename_i n e J
  obtain⟨j,hj,rfl⟩:=BL.1 I
  have E:=SN (place:=fun i=>some (i*j.size,j.size)) (pl:=(List.range n).map fun k=>(k*j.size,j.size)) (fun i x h=>by
   have Z:i<n:=by have:=(AR.1 h).1;simpa using this
   simpa [Z] using h) vs uss z.cells out hu (by rw [W];exact hf)
  have F:(Array.map (fun x=>(x.fst,a.eval x.snd)) parts).toList=vs:=ep
  simp at F
  simp [execOp,ho,Instr.build,zeroValue,typeInfo,CO J,hi,U,sizeOf,hj,F,E]
 ·cases I
theorem Ka{t len parts vs uss zc sz by' out}(ho:o.op= .buildSlice t len parts)(hu:P.underlying t=some (.slice e))(hi:Ft P e=some (zc,sz,by'))(hp:NO K parts.toList=some vs)
 (O:vs.map (fun p=>(p.1,p.2.cells.toList))=uss) (hf:OP ((List.range len).map fun k=>(k*sz,sz)) (madeCells zc.toArray (len*sz)).toList uss=some out)
 (J:Nat.ble (len*sz) 16777216=true) (hsz:sz=c.n) (hpos:Nat.blt 0 c.n=true) (hl:len=xs.length) (U:∀i x,xs[i]? =some x->c.rep w S x (CG out c.n i)) (hS:∀k,S k->k<w.heap.size) (W:out.length=len*sz):
 Jv P N K o w (fun u w'=>∃g,u= .slice (some ⟨g,0,none⟩) len len∧g=w.heap.size∧w'.heap.size=w.heap.size+1∧Bl w w'∧AS c w' g S e xs u):=by
 intro a hK Kt Q hk
 have e1:=hK.parts hp
 unfold Ft at hi
 obtain⟨i,hi1,hi2⟩:=Dp.1 hi
 obtain⟨z,Y,I⟩:=BL.1 hi2
 simp only [EE]at I
 obtain⟨e3,e4,e5⟩:=I
 have J:=FJ J
 have ep:(parts.map fun(p:Nat×Operand)=>(p.1,a.eval p.2)).toList=vs:=by rw [Array.toList_map];exact e1
 have a0:z.cells=zc.toArray:=by rw [←e3]
 have E:=SN (place:=fun i=>some (i*sz,sz)) (pl:=(List.range len).map fun k=>(k*sz,sz)) (fun i x h=>by
  have Z:i<len:=by have:=(AR.1 h).1;simpa using this
  simpa [Z] using h) vs uss (madeCells zc.toArray (len*sz)) out O hf
 have hr:(execOp a.eval o).run P w= .ok (.value (.slice (some ⟨w.heap.size,0,none⟩) len len)) (w.alloc (.cells out.toArray e)):=by
  have F:(Array.map (fun x=>(x.fst,a.eval x.snd)) parts).toList=vs:=ep
  have b0:¬(16777216<len*sz):=by omega
  by_cases h0:len*sz=0
  ·have hm:madeCells zc.toArray (len*sz)= #[]:=by rw [h0];simp [madeCells]
   rw [hm]at E
   simp at F
   simp [execOp,ho,Instr.buildSlice,CO hu,sizeOf,typeInfo,hi1,e4,h0,F,Array.range_zero']
   skip
   simp [E,newRow,newObj]
   try simp [Sem.run,Result.andThen]
  ·simp at F
   simp [execOp,ho,Instr.buildSlice,CO hu,sizeOf,typeInfo,hi1,e4,h0,b0,F,zeroValue,Y]
   have hm:(Array.map (fun x=>z.cells[x%z.cells.size]!) (Array.range (len*sz)))=madeCells zc.toArray (len*sz):=by rw [a0];rfl
   skip
   simp [hm,E,newRow,newObj]
   try simp [Sem.run,Result.andThen]
 unfold Oper.wp
 rw [hr]
 refine hk _ _ ⟨w.heap.size,rfl,rfl,by simp,Bl.alloc _ _,out,?_,fun q x hx=>c.mono (U q x hx) (fun _ h=>h) (fun k hk=>Below.heap_alloc w _ k (hS k hk))⟩
 have h1:=World.ownsRow_lit (e:=e) (size:=c.n) w out.toArray len (Bj w.heap.size) (by
  have:len<=len*sz:=Nat.le_mul_of_pos_right _ (by have h:=hpos;simp [Nat.blt]at h;omega)
  simp only [maxLen];omega) (by simp [W,hsz])
 rw [←hl]
 simpa using h1
end
end Go.Eng
namespace Go.Eng
open Go Go.RowKit
/-! ## Regions whose order is drawn, with operations that act -/
section
variable {P:Program} {N:Nat} {ops:Array Oper} {Q:Exit -> Act -> World -> Prop} {md:Region.Mode} {S S':World -> Prop} {n:Nat}
def FP(P:Program)(md:Region.Mode)(ops:Array Oper)(n:Nat)(Q:Exit->Act->World->Prop)(S:World->Prop):Nat->Array Bool->Act->World->Prop
 |0,listed,a,w=>Region.ready md ops listed=[]∧Q .normal a w
 |f+1,listed,a,w=>(Region.ready md ops listed=[]->Q .normal a w)∧
  ∀i∈Region.ready md ops listed,wpOp P ops Q i (fun a' w'=>(i<n->S w')∧FP P md ops n Q S f (listed.setIfInBounds i true) a' w') a w
theorem FP.any:∀(f:Nat) (listed:Array Bool) (a:Act) (w:World),FP P md ops n Q S f listed a w->wpAny P md ops Q f listed a w
 |0,_,_,_,h=>h
 |f+1,_,_,_,h=>⟨h.1,fun i hi=>wpOp_mono (fun E w' F=>FP.any f _ E w' F.2) (h.2 i hi)⟩
theorem FP.mono(F:∀w,S' w->S w):∀(f:Nat) (listed:Array Bool) (a:Act) (w:World),FP P md ops n Q S' f listed a w->FP P md ops n Q S f listed a w
 |0,_,_,_,h=>h
 |f+1,_,_,_,h=>⟨h.1,fun i hi=>wpOp_mono (fun J w' E=>⟨fun I=>F _ (E.1 I),FP.mono F f _ J w' E.2⟩) (h.2 i hi)⟩
theorem FP.first{i:Nat}{oi:Oper}{v:Value}(hi:ops[i]? =some oi)(b7:i<n)(b9:n<=ops.size)(Z:∀(j:Nat) (o:Oper) cs b,ops[j]? =some o->o.op≠ .select cs b)
 (a0:n=ops.size∨(Region.sinkB md ops n=true∧Region.chainB md ops n=true∧n<ops.size))
 (hQ:∀c a w,Q (.panic c) (a.put oi.dst v) w->Q (.panic c) a w):
 ∀(f:Nat) (listed:Array Bool) (a:Act) (w:World),HeadInv md ops n listed->
  (∀j oj,ops[j]? =some oj->j≠i->listed.getD j true=false->(∀e∈oj.after,Region.binds md e=true->e.on≠i)->oi.apart ops oj=true)->
  i∈Region.ready md ops listed->YieldsIf P ops S oi v a->S w->
  FP P md ops n Q S f (listed.setIfInBounds i true) (a.put oi.dst v) w->FP P md ops n Q S (f+1) listed a w:=by
 have E:∀listed,HeadInv md ops n listed->i∈Region.ready md ops listed->∀j∈Region.ready md ops listed,j<n:=by
  intro listed F O j W
  have b8:j<ops.size:=by
   obtain⟨_,oj,J,_⟩:=mem_ready.1 W
   exact(Ct.1 J).1
  rcases a0 with h|⟨h1,h2,h3⟩
  ·omega
  ·rcases GU j n with h|h
   ·exact h
   ·exact absurd W (tail_waits h1 h2 h3 F _ i rfl b7 (mem_ready.1 O).1 j h)
 intro f
 induction f with
 |zero=>
  intro listed a w F _ O hy hS H
  refine⟨fun h=>(by rw [h]at O;cases O),fun j W=>?_⟩
  by_cases hji:j=i
  ·subst hji;exact hy.wpOp hi hS ⟨fun _=>hS,H⟩
  ·have:=ready_mono W hji
   rw [H.1]at this
   cases this
 |succ f ih=>
  intro listed a w F I O hy hS H
  refine⟨fun h=>(by rw [h]at O;cases O),fun j W=>?_⟩
  have b0:=E listed F O j W
  by_cases hji:j=i
  ·subst hji;exact hy.wpOp hi hS ⟨fun _=>hS,H⟩
  ·have h1:=H.2 j (ready_mono W hji)
   obtain⟨Y,oj,J,b3⟩:=mem_ready.1 W
   have b1:∀e∈oj.after,Region.binds md e=true->e.on≠i:=fun e he hb b6=>by
    have h1:=b3 e he hb
    rw [b6,getD_both (mem_ready.1 O).1]at h1
    cases h1
   have h2:=wpOp_putIf J (I j oj J hji Y b1) (fun cs b=>Z i oi cs b hi) (fun cs b=>Z j oj cs b J) hQ hy h1
   have U:∀k ok,ops[k]? =some ok->k≠i->(listed.setIfInBounds j true).getD k true=false->
    (∀e∈ok.after,Region.binds md e=true->e.on≠i)->oi.apart ops ok=true:=fun k ok hk b5 b2 b4=>by
    refine I k ok hk b5 ?_ b4
    by_cases hjk:j=k
    ·subst hjk;exact Y
    ·rw [getD_set_ne true hjk]at b2;exact b2
   refine wpOp_mono (fun a' w' h3=>⟨fun _=>h3.2.1 b0,ih (listed.setIfInBounds j true) a' w' (F.set W b0) U (ready_mono O (Ne.symm hji)) h3.1 (h3.2.1 b0) ?_⟩) h2
   rw [Array.setIfInBounds_comm _ _ hji]
   exact h3.2.2
theorem FP.seq{E:Exit->Act->World->Prop}:∀(l:List Oper) (k:Nat) (listed:Array Bool) (a:Act) (w:World),(∀j,l[j]? =ops[k+j]?)->n<=k->
 Region.seqB md ops l.length k listed=true->wpList P ops E l a w->FP P md ops n E S l.length listed a w
 |[],k,listed,a,w,hl,hk,hB,h=>⟨by simpa [Region.seqB] using hB,h⟩
 |o::l,k,listed,a,w,hl,hk,hB,h=>by
  have W:ops[k]? =some o:=by simpa using (hl 0).symm
  simp only [DO,Region.seqB,AG,Ak]at hB
  refine⟨fun I=>(by rw [hB.1]at I;cases I),fun i hi=>?_⟩
  rw [hB.1]at hi
  have F:i=k:=by simpa using hi
  subst F
  have J:wpOp P ops E i (wpList P ops E l) a w:=by unfold wpOp;simp only [W];exact h
  exact wpOp_mono (fun U w' O=>⟨fun h=>absurd h (by omega),FP.seq l (i+1) _ U w' (fun j=>by have:=hl (j+1);simpa [Nat.add_assoc,Nat.add_comm 1 j] using this) (by omega) hB.2 O⟩) J
def HL(P:Program)(N:Nat)(ops:Array Oper)(n:Nat)(Q:Exit->Act->World->Prop)(w0:World)(f:Nat)(listed:Array Bool)(K:KL)(w:World):Prop:=
 HeadInv .any ops n listed->Bl w0 w->∀a,Kn N K a->FP P .any ops n Q (fun w'=>Bl w0 w') f listed a w
def noPan(Q:Exit->Act->World->Prop):Exit->Act->World->Prop
 | .panic _,_,_=>False
 |e,a,w=>Q e a w
def Gi(ops:Array Oper)(n:Nat):Bool:=Region.noSelect ops&&Nat.ble n ops.size&&(Nat.beq n ops.size||(Region.sinkB .any ops n&&Region.chainB .any ops n&&Nat.blt n ops.size))
theorem Gi.spec(h:Gi ops n=true):Region.noSelect ops=true∧n<=ops.size∧(n=ops.size∨(Region.sinkB .any ops n=true∧Region.chainB .any ops n=true∧n<ops.size)):=by
 unfold Gi at h
 simp only [AG,CZ]at h
 refine⟨h.1.1,FJ h.1.2,?_⟩
 rcases h.2 with h|h
 ·exact .inl (Bh h)
 ·refine .inr ⟨h.1.1,h.1.2,?_⟩
  have E:=h.2;simp [Nat.blt]at E;omega
variable {K:KL} {w w0:World} {f:Nat} {listed:Array Bool}
theorem HL.yld{o:Oper}{v:Value}(i:Nat)(Z:Gi ops n=true)(hi:ops[i]? =some o)(hc:(Nat.blt i n&&Region.free .any ops listed i&&(Region.ready .any ops listed).contains i)=true)(hg:o.guard=none)(W:Ep N o.dst=true)
 (h:HX P N K o w0 v) (k:HL P N ops n (noPan Q) w0 f (listed.setIfInBounds i true) (DE K o.dst v) w):HL P N ops n (noPan Q) w0 (f+1) listed K w:=by
 intro F U a O
 obtain⟨hs,hn,ht⟩:=Gi.spec Z
 simp only [AG]at hc
 have E:i<n:=by have Y:=hc.1.1;simp [Nat.blt]at Y;omega
 have J:i∈Region.ready .any ops listed:=by simpa using hc.2
 refine FP.first hi E hn (GP hs) ht (fun c a w h=>h.elim) f listed a w F (Region.free_spec hi hc.1.2) J ?_ U (k (F.set J E) U _ (O.put (Ep.h W)))
 exact .inl ⟨by simp [Region.wanted,hg],fun w' I=>h a O w' I⟩
theorem HL.shrink(h:HL P N ops n Q w f listed K w):HL P N ops n Q w0 f listed K w:=by
 intro E J a I
 exact FP.mono (fun O F=>Bl.trans J F) _ _ _ _ (h E (Bl.refl w) a I)
theorem HL.tail{l:List Oper}(F:ops=l.toArray)(E:Region.seqB .any ops (l.drop n).length n listed=true)(I:f=(l.drop n).length)(k:TL P N ops (noPan Q) (l.drop n) K w):HL P N ops n (noPan Q) w0 f listed K w:=by
 intro J U a O
 rw [I]
 exact FP.seq (l.drop n) n listed a w (fun j=>by rw [F,Cv];simp) (Bj n) E (k a O)
theorem WC.held{id:Nat}{l:List Oper}(n:Nat)(hm:P.follows .mixedOrders=true)
 (h:∀w',Bl w w'->HL P N l.toArray n (noPan Q) w' l.length (Array.replicate l.length false) K w'):WC P N (.region id l.toArray true) Q K w:=by
 intro a I
 have E:HeadInv .any l.toArray n (Array.replicate l.length false):=
  ⟨by simp,fun j oj _ hl=>(by rw [getD_replicate_false]at hl;cases hl),fun t _ J=>getD_in (by simpa using J) (getD_replicate_false _ _)⟩
 refine Code.wp_mono ?_ (wp_region_any hm (FP.any _ _ _ _ (h w.drew (Bl.drew w) (by simpa using E) (Bl.refl _) a I)))
 intro e a w F
 cases e<;>first|exact F|exact F.elim
theorem TL.noPan{l:List Oper}(h:NX N Q .normal K w):TL P N ops (noPan Q) [] K w:=fun a E=>h a E
end
/-! ## More operations -/
section
variable {P:Program} {N:Nat} {α:Type} {c:FC α} {w:World} {S:Nat -> Prop} {xs:List α} {v:Value} {o:Oper} {K:KL}
theorem Ay{x a}(ho:o.op= .nilCheck x)(F:ES K x=some (.pointer (some a))):HX P N K o w (.pointer (some a)):=by
 intro a E w' _
 simp [execOp,ho,E.ev F]
def PP{α:Type}(xs:List α)(lo hi:Int):Option (List α):=if 0<=lo∧lo<=hi∧hi<=xs.length then some ((xs.take hi.toNat).drop lo.toNat)else none
theorem Jg{k:IntKind}{i:Int}{y:Nat}{E:BoundsCode}{w:World}(I:0<=i)(F:i<=y):(Instr.sliceBound (.int k i) y E).run P w= .ok i.toNat w:=by
 simp [Instr.sliceBound,asIntOf,I,F]
theorem VR{e:TypeId}{a:Option Addr}{E:Nat}{lo hi:Int}(U:xs.length<=E∧(a=none->E=0))(h3:E<=9223372036854775807)
 (J:0<xs.length->∃b off,a=some ⟨b,off,none⟩∧S b∧∀i x,xs[i]? =some x->∃us,c.rep w S x us∧BK w b (off+i*c.n) us)
 (g0:0<=lo) (g1:lo<=hi) (Z:hi<=xs.length):
 Ae c w S ((xs.take hi.toNat).drop lo.toNat) (.slice (if E=lo.toNat then a else a.map (·.add (lo.toNat*c.n))) (hi.toNat-lo.toNat) (E-lo.toNat)):=by
 have hl:((xs.take hi.toNat).drop lo.toNat).length=hi.toNat-lo.toNat:=by simp;omega
 refine⟨_,_,by rw [hl],⟨by rw [hl];omega,fun h=>?_⟩,by omega,fun hpos=>?_⟩
 ·split at h
  ·omega
  ·have:a=none:=by cases a<;>simp_all
   have:=U.2 this;omega
 ·rw [hl]at hpos
  obtain⟨b,off,rfl,Y,W⟩:=J (by omega)
  rw [BU (by omega)]
  refine⟨b,off+lo.toNat*c.n,by simp [Fa],Y,fun i x F=>?_⟩
  rw [Cv,Cm]at F
  split at F
  ·obtain⟨us,I,O⟩:=W _ _ F
   refine⟨us,I,?_⟩
   have e1:off+lo.toNat*c.n+i*c.n=off+(lo.toNat+i)*c.n:=by rw [Cy];omega
   rw [e1];exact O
  ·cases F
theorem Rt{t x hi e k2 m2 zs}(ho:o.op= .slice t x none (some hi) none)(hu:P.underlying t=some (.slice e))(hc:Cp P e=some c.n)(Y:ES K x=some v)(U:ES K hi=some (.int k2 m2))
 (W:Ae c w S xs v) (hz:PP xs 0 m2=some zs):YE P N K o w (fun u=>Ae c w S zs u):=by
 obtain⟨a,E,rfl,O,Z,J⟩:=W
 unfold PP at hz
 split at hz
 ·rename_i F
  injection hz with hz;subst hz
  obtain⟨i,hi2,hsz⟩:=BL.1 hc
  refine⟨_,fun a' I w' he=>?_,VR (e:=e) O Z J F.1 F.2.1 F.2.2⟩
  have e1:(Instr.sliceBound (.int k2 m2) E .sliceAcap).run P w'= .ok m2.toNat w':=Jg (by omega) (by omega)
  simp [execOp,ho,I.ev Y,I.ev U,Instr.sliceAt,Instr.slice,CO hu,Instr.sliceBounds,e1,sizeOf,typeInfo,hi2,hsz]
 ·cases hz
theorem Tt{t x lo e k1 m1 zs}(ho:o.op= .slice t x (some lo) none none)(hu:P.underlying t=some (.slice e))(hc:Cp P e=some c.n)(Y:ES K x=some v)(U:ES K lo=some (.int k1 m1))
 (W:Ae c w S xs v) (hz:PP xs m1 xs.length=some zs):YE P N K o w (fun u=>Ae c w S zs u):=by
 obtain⟨a,O,rfl,J,Z,I⟩:=W
 unfold PP at hz
 split at hz
 ·rename_i E
  injection hz with hz;subst hz
  obtain⟨i,hi2,hsz⟩:=BL.1 hc
  refine⟨_,fun a' F w' he=>?_,VR (e:=e) J Z I E.1 E.2.1 E.2.2⟩
  have e2:(Instr.sliceBound (.int k1 m1) xs.length .sliceB).run P w'= .ok m1.toNat w':=Jg (by omega) (by omega)
  simp [execOp,ho,F.ev Y,F.ev U,Instr.sliceAt,Instr.slice,CO hu,Instr.sliceBounds,e2,sizeOf,typeInfo,hi2,hsz]
 ·cases hz
def Ua(s:ByteArray)(i:Int):Option Int:=if 0<=i then(s[i.toNat]?).map fun b=>(b.toNat:Int)else none
theorem JE{t x i s k m b}(ho:o.op= .index t x i)(hu:P.underlying t=some .string)(O:ES K x=some (.string s))(hi:ES K i=some (.int k m))(E:Ua s m=some b):HX P N K o w (.int .u8 b):=by
 intro a F w' _
 unfold Ua at E
 split at E
 ·rename_i J
  obtain⟨q,I,rfl⟩:=BL.1 E
  simp [execOp,ho,F.ev O,F.ev hi,Instr.index,asIntOf,CO hu,J,I]
 ·cases E
end
/-! ## Slices of the call's own whose elements lead into memory -/
abbrev SX(B hi:Nat)(v:Value):Nat->Prop:=fun k=>B<=k∧k<hi∧v.ownBlock≠some k
section
variable {α:Type} {c:FC α} {w w':World} {B hi:Nat} {e:TypeId} {xs zs:List α} {v v':Value}
theorem AS.extN(h:AS c w B (SX B hi v) e xs v)(E:Bl w w')(I:hi<=w.heap.size):AS c w' B (SX B hi v) e xs v:=
 h.keep (fun g F=>E.block g (h.blk g F).2) (fun _ h=>h) (fun k h=>E.block k (by have:=h.2.1;omega))
theorem AS.updN{b:Nat}(h:AS c w B (SX B hi v) e xs v)(hu:JF b w w')(E:∀g,v.ownBlock=some g->g≠b)(I:b<B∨hi<=b:=by omega):AS c w' B (SX B hi v) e xs v:=
 h.keep (fun g F=>hu.block g (E g F)) (fun _ h=>h) (fun k h=>hu.block k (by have:=h.1;have:=h.2.1;omega))
theorem AS.wideN{hi':Nat}(h:AS c w B (SX B hi v) e xs v)(E:hi<=hi':=by omega):AS c w B (SX B hi' v) e xs v:=
 h.keep (fun _ _=>rfl) (fun k h=>⟨h.1,by have:=h.2.1;omega,h.2.2⟩) (fun _ _=>rfl)
theorem AS.slN{lo hi':Nat}(h:AS c w B (SX B hi v) e xs v)(E:lo<=B:=by omega)(h2:w.heap.size<=hi':=by omega)(h3:hi<=hi':=by omega):Ae c w (Iv lo hi') xs v:=
 h.sl (fun k h=>⟨by have:=h.1;omega,by have:=h.2.1;omega⟩) (fun k I F=>⟨by omega,by omega⟩)
theorem Ev.below{lo:Nat}(h:Ev w w' v v')(E:∀g,v.ownBlock=some g->lo<=g):Below lo w w'∨w.heap.size<lo:=by
 by_cases hl:lo<=w.heap.size
 ·exact .inl ⟨h.1.os,h.1.tape,h.1.output,h.1.size,fun k hk=>h.1.block k (by omega) (fun e=>by have:=E k e.symm;omega)⟩
 ·exact .inr (by omega)
theorem Ev.low{lo:Nat}(h:Ev w w' v v')(E:∀g,v.ownBlock=some g->lo<=g)(hl:lo<=w.heap.size):Below lo w w':=by
 rcases h.below E with h|h
 ·exact h
 ·omega
theorem Ev.box{b:Nat}{us:List Value}{t:TypeId}(h:Ev w w' v v')(F:Bu w b us t)(E:∀g,v.ownBlock=some g->g≠b):Bu w' b us t:=by
 unfold Bu;rw [h.1.block b F.lt (fun e=>E b e.symm rfl)];exact F
theorem Ev.slr{lo hi:Nat}(h:Ev w w' v v'){ys:List α}{u:Value}(F:Ae c w (Iv lo hi) ys u)(E:∀g,v.ownBlock=some g->g<lo∨hi<=g)(I:hi<=w.heap.size:=by omega):Ae c w' (Iv lo hi) ys u:=
 F.mono (fun _ h=>h) (fun k hk=>h.1.block k (by have:=hk.2;omega) (fun e=>by have:=E k e.symm;have:=hk.1;have:=hk.2;omega))
theorem Ev.bd{S:Nat->Prop}(h:Ev w w' v v')(ho:AS c w' B S e zs v'){lo hi:Nat}(I:∀g,v.ownBlock=some g->lo<=g∧g<hi)(hl:lo<=w.heap.size)(J:hi<=w'.heap.size):∀g,v'.ownBlock=some g->lo<=g∧g<w'.heap.size:=fun g F=>by
 have E:=(ho.blk g F).2
 rcases h.2 g F with h2|h2
 ·exact⟨(I g h2).1,E⟩
 ·exact⟨by omega,E⟩
end
section
variable {P:Program} {N:Nat} {α:Type} {c:FC α} {w:World} {B:Nat} {e:TypeId} {xs ys zs:List α} {v:Value} {o:Oper} {K:KL}
theorem BY[Fy c]{t x y u zc sz by'}{S2:Nat->Prop}(ho:o.op= .call { callee:=.builtin .append,args:=#[x,y],argTypes:=#[t,t] })(hu:P.underlying t=some (.slice e))(hi:Ft P e=some (zc,sz,by'))(hsz:sz=c.n)(hzc:zc.length=sz)
 (hpos:Nat.blt 0 c.n=true) (hx:ES K x=some v) (hy:ES K y=some u) (hs:AS c w B (Iv 0 0) e xs v) (hb:B<=w.heap.size) (hr:Ae c w S2 ys u) (ha:EU xs ys by'=some zs):
 Jv P N K o w (fun v' w'=>AS c w' B (Iv 0 0) e zs v'∧Ev w w' v v'):=
 QM (S':=Iv 0 0) ho hu hi hsz hzc hpos hx hy hs hb hr ha (fun _ h=>h) (fun _ _ h=>Fy.any h) (fun k h=>absurd h.2 (AX k))
theorem OJ{t x y u zc sz by' hi lo2 hi2}(ho:o.op= .call { callee:=.builtin .append,args:=#[x,y],argTypes:=#[t,t] })(hu:P.underlying t=some (.slice e))(hi1:Ft P e=some (zc,sz,by'))(hsz:sz=c.n)(hzc:zc.length=sz)
 (hpos:Nat.blt 0 c.n=true) (hx:ES K x=some v) (hy:ES K y=some u) (hs:AS c w B (SX B hi v) e xs v) (hb:B<=w.heap.size) (hle:hi<=w.heap.size) (hr:Ae c w (Iv lo2 hi2) ys u)
 (h1:B<=lo2) (h2:hi2<=w.heap.size) (hne:∀g,v.ownBlock=some g->g<lo2∨hi2<=g) (ha:EU xs ys by'=some zs):
 Jv P N K o w (fun v' w'=>AS c w' B (SX B w.heap.size v') e zs v'∧Ev w w' v v'):=by
 intro a F Kt Q hk
 refine QM (S':=SX B w.heap.size v) ho hu hi1 hsz hzc hpos hx hy hs hb hr ha (fun k h=>⟨h.1,by have:=h.2.1;omega,h.2.2⟩)
  (fun _ _ h=>c.mono h (fun k hk=>⟨by have:=hk.1;omega,by have:=hk.2;omega,fun e=>by have:=hne k e;have:=hk.1;have:=hk.2;omega⟩) (fun _ _=>rfl)) (fun k h=>⟨h.2.1,h.2.2⟩) a F Kt Q ?_
 rintro v' w' ⟨I,E⟩
 refine hk v' w' ⟨I.keep (fun _ _=>rfl) (fun k h=>⟨h.1,h.2.1,fun e=>?_⟩) (fun _ _=>rfl),E⟩
 rcases E.2 k e with h5|h5
 ·exact h.2.2 h5
 ·have:=h.2.1;omega
end
end Go.Eng
namespace Go.Eng
open Go Go.RowKit
section
variable {α β:Type} {c:FC α} {d:FC β} {w w':World} {B hi:Nat} {e e2:TypeId} {xs zs:List α} {ys:List β} {v v' u:Value}
theorem Ev.ownF[Fy d](h:Ev w w' v v')(ho:AS d w B (Iv 0 0) e2 ys u)(E:∀g q,v.ownBlock=some g->u.ownBlock=some q->g≠q):AS d w' B (Iv 0 0) e2 ys u:=
 ho.keep (fun q F=>h.1.block q (ho.blk q F).2 (fun e=>E q q e.symm F rfl)) (fun _ h=>h) (fun k h=>absurd h.2 (AX k))
theorem Ev.ownN(h:Ev w w' v v')(ho:AS d w B (SX B hi u) e2 ys u)(E:∀g q,v.ownBlock=some g->u.ownBlock=some q->g≠q)(J:hi<=w.heap.size)(I:∀g,v.ownBlock=some g->g<B∨hi<=g):AS d w' B (SX B hi u) e2 ys u:=
 ho.keep (fun q F=>h.1.block q (ho.blk q F).2 (fun e=>E q q e.symm F rfl)) (fun _ h=>h) (fun k hk=>h.1.block k (by have:=hk.2.1;omega) (fun e=>by have:=I k e.symm;have:=hk.1;have:=hk.2.1;omega))
theorem Ev.sepP{p:Nat->Prop}(h:Ev w w' v v')(E:∀g,v.ownBlock=some g->p g)(I:∀g,w.heap.size<=g->p g):∀g,v'.ownBlock=some g->p g:=fun g F=>(h.2 g F).elim (E g) (I g)
theorem Bn{g k E:Nat}{u:Value}(h:u= .slice (some ⟨g,0,none⟩) k E):∀q,u.ownBlock=some q->g<=q∧q<g+1:=by
 subst h;intro q F
 have I:g=q:=Ai F
 omega
theorem Im{lo hi:Nat}:∀q,(Value.slice none 0 0).ownBlock=some q->lo<=q∧q<hi:=fun q h=>by cases h
theorem AS.litN{g k F lo hi2:Nat}(h:AS c w g (Iv lo hi2) e xs u)(hu:u= .slice (some ⟨g,0,none⟩) k F)(I:lo<=g)(J:hi2<=g):AS c w lo (SX lo g u) e xs u:=
 (h.base I).keep (fun _ _=>rfl) (fun q E=>⟨E.1,by have:=E.2;omega,fun e=>by
  subst hu
  have O:g=q:=Ai e
  have:=E.2;omega⟩) (fun _ _=>rfl)
end
section
variable {P:Program} {N:Nat} {α:Type} {c:FC α} {w:World} {B:Nat} {S:Nat -> Prop} {e:TypeId} {xs:List α} {v:Value} {o:Oper} {K:KL}
theorem FO{t x y b off u cur e}(ho:o.op= .store t x y)(U:ES K x=some (.pointer (some ⟨b,off,none⟩)))(I:ES K y=some u)(O:Bu w b cur e)(W:Cp P t=some 1)(E:u.cells= #[u])(J:u.oneCell'=true)
 (F:Nat.ble (off+1) cur.length=true):Jv P N K o w (fun _ w'=>JF b w w'∧Bu w' b (cur.take off++[u]++cur.drop (off+1)) e):=by
 have:=UI (N:=N) ho U I O (by rw [E];exact W) (by rw [E];simp [J]) (by rw [E];exact F)
 rw [E]at this;exact this
theorem PD{t x y u g m us us' y0 y'}(j off:Nat)(ho:o.op= .store t x y)(hx:ES K x=some (.pointer (some ⟨g,off,none⟩)))(Y:ES K y=some u)(hs:AS c w B S e xs v)
 (hg:v.ownBlock=some g) (hm:AU xs m=some y0) (O:off=0+m.toNat*c.n+j) (hn:Cp P t=some 1) (E:u.cells= #[u]) (h1:u.oneCell'=true) (J:c.rep w S y0 us)
 (U:BK w g (0+m.toNat*c.n) us) (W:us'=KW us j [u]) (I:Nat.ble (j+1) us.length=true) (F:c.rep w S y' us') (Z:∀k,S k->k≠g):
 Jv P N K o w (fun _ w'=>JF g w w'∧AS c w' B S e (xs.set m.toNat y') v):=
 Bc j off ho hx Y hs hg hm O (by rw [E];exact hn) (by rw [E];simp [h1]) J U (by rw [E];exact W) (by rw [E];exact I) F Z
theorem AS.baseN{E hi:Nat}(h:AS c w B (SX B hi v) e xs v)(F:E<=B:=by omega):AS c w E (SX E hi v) e xs v:=
 (h.base F).keep (fun _ _=>rfl) (fun k hk=>⟨by have:=hk.1;omega,hk.2⟩) (fun _ _=>rfl)
end
theorem AB{x:Value}{xs:List Value}(h:x.oneCell'=true)(E:xs.all Value.oneCell'=true):(x::xs).all Value.oneCell'=true:=by simp [Fw,h,E]
theorem BX:([]:List Value).all Value.oneCell'=true:=rfl
def KO:Nat->List (List Value)->List (Nat×List Value)
 |_,[]=>[]
 |k,us::uss=>(k,us)::KO (k+1) uss
theorem TI{n len:Nat}:∀(uss:List (List Value)) (k:Nat) (F E:List Value),F.length=k*n->E.length=uss.length*n->(∀us∈uss,us.length=n)->len=k+uss.length->
 OP ((List.range len).map fun k=>(k*n,n)) (F++E) (KO k uss)=some (F++Dh uss)
 |[],k,F,E,hp,hq,ha,hl=>by
  have:E=[]:=CN (by simpa using hq)
  subst this;simp [KO,OP,Dh]
 |us::uss,k,F,E,hp,hq,ha,hl=>by
  have I:us.length=n:=ha us (Co ..)
  have hk:((List.range len).map fun k=>(k*n,n))[k]? =some (k*n,n):=by
   have:k<len:=by rw [hl,DO];omega
   simp [this]
  have J:E.length=uss.length*n+n:=by rw [hq,DO,Cy];omega
  have e:List.take (k*n) (F++E)++us++List.drop (k*n+us.length) (F++E)=(F++us)++E.drop n:=by
   rw [←hp,List.take_left,List.drop_append,I,FA (by omega)]
   simp
  have:=TI (len:=len) uss (k+1) (F++us) (E.drop n) (by rw [CA,hp,I,Cy];omega) (by rw [List.length_drop,J];omega) (fun x U=>ha x (Dx _ U)) (by rw [hl,DO];omega)
  have O:(Nat.beq us.length n&&Nat.ble (k*n+us.length) (F++E).length)=true:=by
   rw [AG]
   exact⟨by rw [I];exact Nat.beq_refl n,Nat.ble_eq_true_of_le (by rw [CA,hp,J,I];omega)⟩
  rw [KO,OP]
  simp only [hk]
  rw [O,e,BE rfl,this]
  simp [Dh]
theorem RY{n len:Nat}{I:Array Value}{uss:List (Nat×List Value)}(E:List (List Value))(O:uss=KO 0 E)(J:E.all (fun us=>Nat.beq us.length n)=true)(U:E.length=len):
 OP ((List.range len).map fun k=>(k*n,n)) (madeCells I (len*n)).toList uss=some (Dh E):=by
 subst O
 have:=TI (n:=n) (len:=len) E 0 [] (madeCells I (len*n)).toList (by simp) (by rw [GX,HH,U]) (fun us F=>Bh (CX.1 J us F)) (by omega)
 simpa using this
section
variable {P:Program} {N:Nat} {ops:Array Oper} {Q:Exit -> Act -> World -> Prop} {n:Nat} {K:KL} {w w0:World} {f:Nat} {listed:Array Bool}
def HB(P:Program)(N:Nat)(ops:Array Oper)(n:Nat)(Q:Exit->Act->World->Prop)(w0:World)(f:Nat)(listed:Array Bool)(K:KL)(w:World)(j:Nat):Prop:=
 HeadInv .any ops n listed->Bl w0 w->∀a,Kn N K a->wpOp P ops Q j (fun a' w'=>(j<n->Bl w0 w')∧FP P .any ops n Q (fun w'=>Bl w0 w') f (listed.setIfInBounds j true) a' w') a w
theorem HL.many{js:List Nat}(J:Region.ready .any ops listed=js)(E:js.isEmpty=false)(h:∀j∈js,HB P N ops n Q w0 f listed K w j):HL P N ops n Q w0 (f+1) listed K w:=by
 intro F W a U
 refine⟨fun O=>(by rw [J]at O;subst O;cases E),fun j I=>?_⟩
 rw [J]at I
 exact h j I F W a U
theorem HB.eff{o:Oper}{R:Value->World->Prop}(i:Nat)(hi:ops[i]? =some o)(F:Nat.blt i n=true)(hr:(Region.ready .any ops listed).contains i=true)(hg:o.guard=none)(Y:Ep N o.dst=true)
 (h:Jv P N K o w R) (k:∀v w',R v w'->Bl w0 w'∧HL P N ops n (noPan Q) w0 f (listed.setIfInBounds i true) (DE K o.dst v) w'):HB P N ops n (noPan Q) w0 f listed K w i:=by
 intro J hx a U
 have E:i<n:=by have I:=F;simp [Nat.blt]at I;omega
 have O:i∈Region.ready .any ops listed:=by simpa using hr
 unfold wpOp
 simp only [hi]
 rw [BE (by simp [Region.wanted,hg])]
 refine .inl (h a U _ _ fun u w' Z=>?_)
 obtain⟨W,I⟩:=k u w' Z
 exact⟨fun _=>W,I (J.set O E) W _ (U.put (Ep.h Y))⟩
theorem SL{p:Nat->Prop}{i j:Nat}(E:p i)(F:p j):∀k∈[i,j],p k:=by
 intro k hk
 rcases DX.1 hk with rfl|hk
 ·exact E
 ·obtain rfl:=Bb.1 hk;exact F
theorem WC.join{c:Code}(R:Act->World->Prop)(I:WC P N c (fun e a w=>e= .normal∧R a w) K w)(F:∀a w',R a w'->Q .normal a w'):WC P N c Q K w:=by
 intro a E
 refine Code.wp_mono ?_ (I a E)
 rintro e a w ⟨rfl,h⟩
 exact F a w h
end
theorem AS.slb{α:Type}{c:FC α}{w:World}{B lo hi:Nat}{S:Nat->Prop}{e:TypeId}{xs:List α}{v:Value}[Fy c](h:AS c w B S e xs v)(hb:∀g,v.ownBlock=some g->lo<=g∧g<hi):Ae c w (Iv lo hi) xs v:=by
 obtain⟨cs,I,Z⟩:=h
 have Y:=I
 obtain⟨hl,⟨rfl,hn⟩|⟨g,F,J,rfl,_,U,W,O,h7,h8⟩⟩:=Y
 ·have:xs=[]:=CN hn
  subst this;exact Ae.nil _ _ _
 ·refine⟨some ⟨g,0,none⟩,F,rfl,⟨W,fun h=>by cases h⟩,by simpa [maxLen] using O,fun hpos=>⟨g,0,rfl,hb g rfl,fun i x hx=>⟨_,Fy.any (Z i x hx),fun j u hu=>?_⟩⟩⟩
  have E:j<c.n:=by
   have:=(AR.1 hu).1
   simp [CG]at this;omega
  rw [DM E]at hu
  have:=I.cells (g:=g) rfl _ _ hu
  rw [Fa]at this
  rw [show 0+i*c.n+j=0+(i*c.n+j) by omega];exact⟨this,by simp [World.frozen?,U]⟩
def SA{α:Type}(c:FC α)(w:World)(S:Nat->Prop):List α->List (List Value)->Prop
 |[],[]=>True
 |x::xs,us::uss=>c.rep w S x us∧SA c w S xs uss
 |_,_=>False
theorem SA.get{α:Type}{c:FC α}{w:World}{S:Nat->Prop}:∀{xs:List α} {uss:List (List Value)},SA c w S xs uss->(∀us∈uss,us.length=c.n)∧xs.length=uss.length∧∀(i:Nat) (x:α),xs[i]? =some x->∃us:List Value,uss[i]? =some us∧c.rep w S x us
 |[],[],_=>⟨by simp,rfl,fun i x h=>by simp at h⟩
 |x::xs,us::uss,⟨h1,h2⟩=>by
  obtain⟨a,b,k⟩:=SA.get h2
  refine⟨fun q hq=>?_,by simp [b],fun i y E=>?_⟩
  ·rcases DX.1 hq with rfl|hq
   ·exact c.len h1
   ·exact a q hq
  ·cases i with
   |zero=>simp at E;subst E;exact⟨us,rfl,h1⟩
   |succ i=>simpa using k i y (by simpa using E)
theorem SA.elem{α:Type}{c:FC α}{w:World}{S:Nat->Prop}{xs:List α}{uss:List (List Value)}(h:SA c w S xs uss):∀i x,xs[i]? =some x->c.rep w S x (CG (Dh uss) c.n i):=by
 intro i x I
 obtain⟨a,b,k⟩:=SA.get h
 obtain⟨us,E,F⟩:=k i x I
 rw [Pa a E];exact F
theorem UU{α:Type}{c:FC α}{w:World}{S:Nat->Prop}{xs:List α}{uss:List (List Value)}{out:List Value}(h:SA c w S xs uss)(ho:out=Dh uss):∀i x,xs[i]? =some x->c.rep w S x (CG out c.n i):=by
 subst ho;exact h.elem
end Go.Eng
namespace Go.Eng
open Go Go.RowKit Go.ChangeShapes Go.WideShapes Go.ChangeAt
/-! ## Arguments, as they are read -/
def Rd{α:Type}(P:Program)(t:TypeId)(c:FC α)(R:α->Prop):Prop:=
 ∀(H:Type) (enc:TypeId×Value->H) (w:World) (base:Nat) (spare:Nat->Bool) (held:Bool) (fuel:Nat) (cs:List Value) (x:DataW H×List MemPlace),
  DataW.trod enc P w base spare held fuel t cs=some x->w.noneFrozen x.2->∃y,c.rep w (Iv 0 w.heap.size) y cs∧R y
section
variable {P:Program} {t e:TypeId} {α β:Type} {c:FC α} {d:FC β} {R:α -> Prop} {R':β -> Prop}
theorem Rd.int{k:IntKind}(hu:P.underlying t=some (.int k)):Rd P t (CR k) (fun i=>k.min<=i∧i<=k.max):=fun H enc w b J I f cs x F _=>by
 obtain⟨n,rfl,rfl,E⟩:=DataW.trod_int hu F
 simp only [Lit.wf,AG,Ak]at E
 exact⟨n,rfl,E⟩
theorem YD{p:Nat->α->Prop}:∀(n:Nat),(∀i,i<n->∃y,p i y)->∃ys:List α,ys.length=n∧∀i y,ys[i]? =some y->p i y
 |0,_=>⟨[],rfl,fun i y h=>by simp at h⟩
 |n+1,h=>by
  obtain⟨ys,hl,E⟩:=YD n (fun i hi=>h i (by omega))
  obtain⟨y,F⟩:=h n (by omega)
  refine⟨ys++[y],by simp [hl],fun i z hz=>?_⟩
  by_cases hi:i<n
  ·rw [BA (by omega)]at hz;exact E i z hz
  ·rw [BI (by omega),hl]at hz
   by_cases h0:i-n=0
   ·rw [h0]at hz
    simp at hz
    obtain rfl:i=n:=by omega
    subst hz;exact F
   ·have:=(AR.1 hz).1
    simp at this;omega
theorem Rd.slice(hu:P.underlying t=some (.slice e))(hc:P.cellsOf e=c.n)(hp:Nat.blt 0 c.n=true)(h:Rd P e c R):Rd P t (HU c) (fun xs=>xs.length<=9223372036854775807∧∀x∈xs,R x):=fun H enc w b sp hd f cs x W hz=>by
 have hp:0<c.n:=by have h:=hp;simp [Nat.blt]at h;omega
 rcases Go.Deep.open_slice hu W with ⟨rfl,rfl⟩|⟨a,len,b1,m,n,D,Pl,rfl,hb,hl,hm,hmm,rfl,b0⟩
 ·exact⟨[],⟨_,rfl,Ae.nil _ _ _⟩,by simp,by simp⟩
 have b3:len<=m:=by rw [hmm];split<;>omega
 obtain⟨ys,a0,Z⟩:=YD (α:=α) (p:=fun i y=>∃E,w.cells? b (a.add (i*P.cellsOf e)) (P.cellsOf e)=some E∧c.rep w (Iv 0 w.heap.size) y E∧R y) len (fun i hi=>by
  obtain⟨E,O,Y⟩:=b0 i (by omega)
  obtain⟨y,U,I⟩:=h H enc w b sp hd n E _ Y (fun b' o' hm=>hz b' o' (List.mem_append_right _ (List.mem_flatMap.2 ⟨i,FG.2 (by omega),hm⟩)))
  exact⟨y,E,O,U,I⟩)
 refine⟨ys,⟨_,rfl,some a,b1,by rw [a0],⟨by omega,fun h=>by cases h⟩,by unfold maxLen at hm;omega,fun hpos=>?_⟩,by unfold maxLen at hm;omega,fun x W=>?_⟩
 ·rw [hc]at Z
  have h0:∃E,w.cells? b (a.add (0*c.n)) c.n=some E:=by
   obtain⟨y,b2⟩:∃y,ys[0]? =some y:=⟨_,AK hpos⟩
   obtain⟨E,O,_⟩:=Z 0 y b2
   exact⟨E,O⟩
  obtain⟨E,O⟩:=h0
  obtain⟨_,Y,U⟩:=World.cells?_some O
  have I:=U 0 hp
  have e0:(a.add (0*c.n)).add 0=a:=by simp [Addr.add]
  rw [e0,AK (by omega)]at I
  obtain⟨blk,off,J⟩:=a
  have F:blk<w.heap.size∧J=none:=by
   unfold World.cell? at I
   split at I
   ·rename_i h5
    refine⟨(Ct.1 h5).1,?_⟩
    cases J with
    |none=>rfl
    |some s=>simp at I
   ·cases I
  obtain⟨F,rfl⟩:=F
  refine⟨blk,off,rfl,⟨Nat.zero_le _,F⟩,fun i x W=>?_⟩
  obtain⟨E,O,Y,_⟩:=Z i x W
  refine⟨E,Y,fun j u hu=>?_⟩
  obtain⟨_,U,I⟩:=World.cells?_some O
  have hj:=(AR.1 hu).1
  have:=I j (by omega)
  rw [Fa,Fa]at this
  refine⟨by rw [this,hu],hz _ _ (FW _ ?_)⟩
  unfold MemPlace.row
  refine ED.2 ⟨i*c.n+j,FG.2 ?_,by simp [Nat.add_assoc]⟩
  have hi2:i<m:=by have:=(AR.1 W).1;omega
  have:(i+1)*c.n<=m*c.n:=CC _ hi2
  rw [Cy]at this
  rw [hc];omega
 ·obtain⟨i,hi⟩:=List.getElem?_of_mem W
  obtain⟨_,_,_,U⟩:=Z i x hi
  exact U
def RdF{α:Type}(P:Program)(fs:List Field)(off:Nat)(c:FC α)(R:α->Prop):Prop:=
 ∀(H:Type) (enc:TypeId×Value->H) (w:World) (base:Nat) (spare:Nat->Bool) (held:Bool) (fuel:Nat) (cs:List Value),
  (∀f∈fs,∃x,DataW.trod enc P w base spare held fuel f.type ((cs.drop f.offset).take (P.cellsOf f.type))=some x∧w.noneFrozen x.2)->∃y,c.rep w (Iv 0 w.heap.size) y ((cs.drop off).take c.n)∧R y
theorem RdF.one{f:Field}{off:Nat}(h:Rd P f.type c R)(ho:f.offset=off)(hc:P.cellsOf f.type=c.n):RdF P [f] off c R:=fun H enc w b J I U cs E=>by
 obtain⟨x,E,hz⟩:=E f (Bb.2 rfl)
 obtain⟨y,F,O⟩:=h H enc w b J I U _ x E hz
 rw [ho,hc]at F
 exact⟨y,F,O⟩
end
/-! ## A statement whose answer is true -/
section
variable {H:Type} {enc:TypeId × Value -> H} {P:Program}
theorem Pf(hl:laidOutB P=true){W J:World}(I:Below W.heap.size W J):∀{ts:List TypeId} {vs:List Value} {ds:List (DataW H)} {E:List MemPlace},(∀t∈ts,P.readableRec t=true∧t<P.types.size)->
 DataW.TrodAll enc P W 0 (fun _=>true) true ts vs ds E->(∀x∈E,x.block<W.heap.size)->DataW.TrodAll enc P J 0 (fun b=>decide (b<W.heap.size)) true ts vs ds E
 |[],[],[],E,_,h,_=>h
 |t::ts,v::vs,d::ds,E,hr,h,hlt=>by
  obtain⟨p,q,Y,O,rfl⟩:=h
  obtain⟨h3,U⟩:=hr t (Co ..)
  exact⟨p,q,Below.trod hl h3 U Y I (fun x F=>hlt x (FW _ F)),Pf hl I (fun t Z=>hr t (Dx _ Z)) O (fun x F=>hlt x (List.mem_append_right _ F)),rfl⟩
theorem Rn{w:World}{base:Nat}{I:Nat->Bool}{F:Bool}:∀{ts:List TypeId} {vs:List Value} {ds:List (DataW H)} {E:List MemPlace},DataW.TrodAll enc P w base I F ts vs ds E->ds.length=ts.length
 |[],[],[],_,_=>rfl
 |t::ts,v::vs,d::ds,E,⟨p,q,_,h,_⟩=>by simp [Rn h]
end
end Go.Eng
namespace Go.Eng
open Go Go.RowKit
/-! ## YM laws on what the walks compute -/
theorem BV{x:Int}(E:-9223372036854775808<=x)(F:x<=9223372036854775807):IntKind.wrap IntKind.i64 x=x:=by
 simp [IntKind.wrap,IntKind.bits,IntKind.signed]
 split<;>omega
theorem HM{α:Type}(xs:List α)(i:Nat):AU xs (i:Int)=xs[i]?:=by simp [AU]
theorem JL{α:Type}{xs:List α}{i:Int}(F:0<=i)(I:i<xs.length):∃x,AU xs i=some x∧x∈xs:=by
 obtain⟨n,rfl⟩:=Ap F
 have E:n<xs.length:=by omega
 exact⟨xs[n],by rw [HM,AK E],AQ E⟩
theorem Gc{n b:Nat}(h:n<=1048576)(F:b<=268435456):QS (n:Int) b=some n:=by
 unfold QS
 have I:n*b<=1048576*268435456:=FE h F
 have E:(n:Int)*(b:Int)<=281474976710656:=by
  have:((n*b:Nat):Int)<=281474976710656:=by omega
  simpa using this
 rw [BE ⟨by omega,E,by omega⟩]
 simp
end Go.Eng
namespace Go.Eng
open Go Go.RowKit
/-! ## Calls that write what they are handed -/
def pB(b:Nat):Nat->Prop:=fun k=>k=b
def pO(v:Value):Nat->Prop:=fun k=>v.ownBlock=some k
def US(p q:Nat->Prop):Nat->Prop:=fun k=>p k∨q k
theorem Ab{b:Nat}{Q:Nat->Prop}(h:Q b:=by omega):∀k,pB b k->Q k:=fun k e=>by have e:k=b:=e;rw [e];exact h
theorem Ja{v:Value}{Q:Nat->Prop}(h:∀g,v.ownBlock=some g->Q g):∀k,pO v k->Q k:=h
theorem ET{p q:Nat->Prop}{Q:Nat->Prop}(E:∀k,p k->Q k)(F:∀k,q k->Q k):∀k,US p q k->Q k:=fun k h=>h.elim (E k) (F k)
structure Cb(p:Nat->Prop)(w w':World):Prop where
 os:w'.os=w.os
 tape:w'.tape=w.tape
 output:w'.output=w.output
 size:w.heap.size<=w'.heap.size
 block:∀k,k<w.heap.size->¬p k->w'.heap[k]? =w.heap[k]?
section
variable {p q:Nat -> Prop} {w a c:World}
theorem Cb.refl(p:Nat->Prop)(w:World):Cb p w w:=⟨rfl,rfl,rfl,Bj _,fun _ _ _=>rfl⟩
theorem Cb.ext(h:Cb p w a)(E:Bl a c):Cb p w c:=
 ⟨E.os.trans h.os,E.tape.trans h.tape,E.output.trans h.output,BH h.size E.size,fun k hk F=>(E.block k (Eh hk h.size)).trans (h.block k hk F)⟩
theorem Cb.upd{b:Nat}(h:Cb p w a)(hu:JF b a c)(F:p b∨w.heap.size<=b):Cb p w c:=
 ⟨hu.os.trans h.os,hu.tape.trans h.tape,hu.output.trans h.output,by rw [hu.size];exact h.size,fun k hk E=>(hu.block k (fun e=>by subst e;exact F.elim E (fun h=>by omega))).trans (h.block k hk E)⟩
theorem Cb.grow{v v':Value}(h:Cb p w a)(E:Ev a c v v')(I:∀g,v.ownBlock=some g->p g∨w.heap.size<=g):Cb p w c:=
 ⟨E.1.os.trans h.os,E.1.tape.trans h.tape,E.1.output.trans h.output,BH h.size E.1.size,fun k hk F=>(E.1.block k (Eh hk h.size) (fun e=>(I k e.symm).elim F (fun h=>by omega))).trans (h.block k hk F)⟩
theorem Cb.but(h:Cb p w a)(E:Cb q a c)(I:∀k,q k->p k∨w.heap.size<=k):Cb p w c:=
 ⟨E.os.trans h.os,E.tape.trans h.tape,E.output.trans h.output,BH h.size E.size,fun k hk F=>(E.block k (Eh hk h.size) (fun e=>(I k e).elim F (fun h=>by omega))).trans (h.block k hk F)⟩
theorem Cb.below{lo:Nat}(h:Cb p w a)(E:∀k,p k->lo<=k)(hl:lo<=w.heap.size):Below lo w a:=
 ⟨h.os,h.tape,h.output,h.size,fun k hk=>h.block k (by omega) (fun e=>by have:=E k e;omega)⟩
theorem Bu.but{b:Nat}{us:List Value}{t:TypeId}(F:Bu w b us t)(h:Cb p w a)(E:∀k,p k->k≠b):Bu a b us t:=by
 have I:=h.block b F.lt (fun e=>E b e rfl)
 unfold Bu at F ⊢;rw [I,F]
theorem Ae.but{α:Type}{d:FC α}{lo hi:Nat}{xs:List α}{v:Value}(F:Ae d w (Iv lo hi) xs v)(h:Cb p w a)(E:∀k,p k->k<lo∨hi<=k)(I:hi<=w.heap.size):Ae d a (Iv lo hi) xs v:=
 F.mono (fun _ h=>h) (fun k hk=>h.block k (by have:=hk.2;omega) (fun e=>by have:=E k e;have:=hk.1;have:=hk.2;omega))
theorem AS.butF{α:Type}{d:FC α}[Fy d]{B:Nat}{e:TypeId}{xs:List α}{v:Value}(ho:AS d w B (Iv 0 0) e xs v)(h:Cb p w a)(E:∀k,p k->∀g,v.ownBlock=some g->k≠g):AS d a B (Iv 0 0) e xs v:=
 ho.keep (fun g F=>h.block g (ho.blk g F).2 (fun e=>E g e g F rfl)) (fun _ h=>h) (fun k h=>absurd h.2 (AX k))
theorem AS.butN{α:Type}{d:FC α}{B hi:Nat}{e:TypeId}{xs:List α}{v:Value}(ho:AS d w B (SX B hi v) e xs v)(h:Cb p w a)(E:∀k,p k->∀g,v.ownBlock=some g->k≠g)(J:hi<=w.heap.size)(I:∀k,p k->k<B∨hi<=k):AS d a B (SX B hi v) e xs v:=
 ho.keep (fun g F=>h.block g (ho.blk g F).2 (fun e=>E g e g F rfl)) (fun _ h=>h) (fun k hk=>h.block k (by have:=hk.2.1;omega) (fun e=>by have:=I k e;have:=hk.1;have:=hk.2.1;omega))
end
section
variable {P:Program} {N:Nat} {o:Oper} {K:KL} {w:World}
theorem Cz{i:Nat}{v:Value}{us:List Value}{E:List (Nat×Value)}{uss:List (Nat×List Value)}(h:v.cells.toList=us)(t:E.map (fun p=>(p.1,p.2.cells.toList))=uss):((i,v)::E).map (fun p=>(p.1,p.2.cells.toList))=(i,us)::uss:=by
 rw [Gk,t,h]
theorem Ae.cl{α:Type}{c:FC α}{w:World}{S:Nat->Prop}{xs:List α}{v:Value}(h:Ae c w S xs v):v.cells.toList=[v]:=by rw [Ae.cells h]
/-! ## Functions as values, shifts, bits -/
theorem HK{f first captured cs}(ho:o.op= .makeFunc (.func f) first captured)(I:SR K first.toList=some [])(F:SR K captured.toList=some cs):HX P N K o w (.func (.func f) #[] cs.toArray):=by
 intro a E w' _
 have e1:first.map a.eval= #[]:=by
  have:=E.evs I
  apply Array.ext'
  simpa using this
 have e2:captured.map a.eval=cs.toArray:=by
  have:=E.evs F
  apply Array.ext'
  simpa using this
 simp [execOp,ho,Instr.makeFunc,e1,e2]
theorem Hm{x f args tys vs cs}{R:Value->World->Prop}(ho:o.op= .call { callee:=.value x,args:=args,argTypes:=tys })(hf:Bm P f=true)(hx:ES K x=some (.func (.func f) #[] cs))
 (ha:SR K args.toList=some vs) (hc:Calls P f (vs++cs.toList).toArray w (Gh R)):Jv P N K o w R:=by
 intro a F Kt Q hk
 have E:args.map a.eval=vs.toArray:=by
  have:=F.evs ha
  apply Array.ext'
  simpa using this
 have J:(execOp a.eval o).run P w= .ok (.enter f (vs++cs.toList).toArray) w:=by
  have e:vs.toArray++cs=(vs++cs.toList).toArray:=by simp
  simp [execOp,ho,resolve,F.ev hx,Deferred.ofValue,invoke,E,e,Qh hf]
 unfold Oper.wp
 rw [J]
 exact hc.mono fun e w' ⟨v,E,I⟩=>by subst E;exact hk _ _ I
def Vo(k:IntKind)(m n:Int):Int:=m.fdiv (2^(min n.toNat k.bits))
def Px(k:IntKind)(m n:Int):Int:=k.wrap (m*2^(min n.toNat k.bits))
def fD(k:IntKind)(m n:Int):Int:=k.wrap (BitVec.ofInt k.bits m&&&BitVec.ofInt k.bits n).toNat
theorem kZ{t x y u k k2 m n}(ho:o.op= .binOp .shr t x y u)(J:ES K x=some (.int k m))(F:ES K y=some (.int k2 n))(I:¬n<0):HX P N K o w (.int k (Vo k m n)):=by
 intro a E w' _
 simp [execOp,ho,E.ev J,E.ev F,eqGuard,binOp,Op.shift,I,Vo]
theorem UT{t x y u k k2 m n}(ho:o.op= .binOp .shl t x y u)(J:ES K x=some (.int k m))(F:ES K y=some (.int k2 n))(I:¬n<0):HX P N K o w (.int k (Px k m n)):=by
 intro a E w' _
 simp [execOp,ho,E.ev J,E.ev F,eqGuard,binOp,Op.shift,I,Px]
theorem iY{t x y u k m n}(ho:o.op= .binOp .and t x y u)(I:ES K x=some (.int k m))(F:ES K y=some (.int k n)):HX P N K o w (.int k (fD k m n)):=by
 intro a E w' _
 simp [execOp,ho,E.ev I,E.ev F,eqGuard,binOp,Op.intBits,fD]
theorem sI{b:Int}{α:Type}{y:Option α}{r:α}(h:(bif decide (b<0)then none else y)=some r):¬b<0∧y=some r:=by
 by_cases hb:b<0
 ·simp [hb]at h
 ·exact⟨hb,by simpa [hb] using h⟩
end
end Go.Eng
namespace Go.Eng
open Go Go.RowKit
section
variable {P:Program} {N:Nat} {o:Oper} {K:KL} {w:World}
theorem VQ{t x y u e}(ho:o.op= .binOp .eql t x y u)(hu:P.underlying t=some (.slice e))(I:ES K x=some (.slice none 0 0))(F:ES K y=some (.slice none 0 0)):HX P N K o w (.bool true):=by
 intro a E w' _
 simp [execOp,ho,E.ev I,E.ev F,eqGuard,binOp,run_equal_slice_nil,hu]
theorem WO{t x y u e p n cap}(ho:o.op= .binOp .eql t x y u)(hu:P.underlying t=some (.slice e))(I:ES K x=some (.slice (some p) n cap))(F:ES K y=some (.slice none 0 0)):HX P N K o w (.bool false):=by
 intro a E w' _
 simp [execOp,ho,E.ev I,E.ev F,eqGuard,binOp,run_equal_slice_nil,hu]
theorem Ae.nil_or{α:Type}{c:FC α}{S:Nat->Prop}{xs:List α}{v:Value}(h:Ae c w S xs v):(v= .slice none 0 0∧xs=[])∨∃p n E,v= .slice (some p) n E:=by
 obtain⟨a,E,rfl,⟨J,I⟩,_,_⟩:=h
 cases a with
 |none=>
  have:=I rfl
  have F:xs=[]:=CN (by omega)
  subst F;subst this;exact .inl ⟨rfl,rfl⟩
 |some p=>exact .inr ⟨p,_,E,rfl⟩
variable {Q:Exit -> Act -> World -> Prop}
theorem WC.cond_t{c:Operand}{x y:Code}(hc:ES K c=some (.bool true))(E:WC P N x Q K w):WC P N (.cond c x y) Q K w:=WC.cond hc (fun _=>E) (fun h=>absurd h (by decide))
theorem WC.cond_f{c:Operand}{x y:Code}(hc:ES K c=some (.bool false))(E:WC P N y Q K w):WC P N (.cond c x y) Q K w:=WC.cond hc (fun h=>absurd h (by decide)) (fun _=>E)
/-! ## A drawn region that writes what was there: the blocks of p -/
def YA(P:Program)(N:Nat)(K:KL)(o:Oper)(Ψ:Value->Prop):Prop:=∃v,(∀w,HX P N K o w v)∧Ψ v
theorem TC{α:Type}{c:FC α}{xs:List α}{y:α}{t x i e v k m S}(ho:o.op= .indexAddr t x i)(hu:P.underlying t=some (.slice e))(hc:Cp P e=some c.n)(hx:ES K x=some v)
 (hi2:ES K i=some (.int k m)) (hs:Ae c w S xs v) (hg:AU xs m=some y):
 YA P N K o (fun u=>∃b off us,u= .pointer (some ⟨b,off,none⟩)∧S b∧c.rep w S y us∧BK w b off us):=by
 obtain⟨a,Y,rfl,h2,h3,O⟩:=hs
 obtain⟨U,I,E⟩:=Gf hg
 obtain⟨b,off,rfl,Z,W⟩:=O (by omega)
 obtain⟨us,J,F⟩:=W _ _ E
 exact⟨_,fun w=>IR ho hu hc hx hi2 U I,b,_,us,rfl,Z,J,F⟩
theorem Du{α:Type}{c:FC α}{xs:List α}{v:Value}{B:Nat}{S:Nat->Prop}{e:TypeId}{y:α}{t x i k m}(ho:o.op= .indexAddr t x i)(hu:P.underlying t=some (.slice e))(hc:Cp P e=some c.n)(J:ES K x=some v)
 (hi2:ES K i=some (.int k m)) (F:AS c w B S e xs v) (I:AU xs m=some y):
 YA P N K o (fun u=>∃g us,u= .pointer (some ⟨g,0+m.toNat*c.n,none⟩)∧v.ownBlock=some g∧c.rep w S y us∧BK w g (0+m.toNat*c.n) us):=by
 obtain⟨u,h1,g,us,rfl,E,h3,Y⟩:=QZ (N:=N) ho hu hc J hi2 F I
 obtain⟨Z,W,g2⟩:=Gf I
 obtain⟨cs,⟨hl,⟨rfl,_⟩|⟨O,a0,U,rfl,_⟩⟩,_⟩:=F
 ·cases E
 ·have E:O=g:=Ai E
  subst E
  exact⟨_,fun w=>by have:=IR (N:=N) (w:=w) ho hu hc J hi2 Z W;simpa [Fa] using this,O,us,rfl,rfl,h3,Y⟩
end
section
variable {P:Program} {N:Nat} {ops:Array Oper} {Q:Exit -> Act -> World -> Prop} {n:Nat} {K:KL} {w w0:World} {f:Nat} {listed:Array Bool} {p:Nat -> Prop}
def Kv(P:Program)(N:Nat)(ops:Array Oper)(n:Nat)(Q:Exit->Act->World->Prop)(p:Nat->Prop)(w0:World)(f:Nat)(listed:Array Bool)(K:KL)(w:World):Prop:=
 HeadInv .any ops n listed->Cb p w0 w->∀a,Kn N K a->FP P .any ops n Q (fun w'=>Cb p w0 w') f listed a w
theorem Kv.yld{o:Oper}{v:Value}(i:Nat)(hh:Gi ops n=true)(hi:ops[i]? =some o)(hc:(Nat.blt i n&&Region.free .any ops listed i&&(Region.ready .any ops listed).contains i)=true)(hg:o.guard=none)(Y:Ep N o.dst=true)
 (h:∀U,Cb p w0 U->HX P N K o U v) (k:Kv P N ops n (noPan Q) p w0 f (listed.setIfInBounds i true) (DE K o.dst v) w):Kv P N ops n (noPan Q) p w0 (f+1) listed K w:=by
 intro F W a O
 obtain⟨hs,hn,ht⟩:=Gi.spec hh
 simp only [AG]at hc
 have E:i<n:=by have Z:=hc.1.1;simp [Nat.blt]at Z;omega
 have J:i∈Region.ready .any ops listed:=by simpa using hc.2
 refine FP.first hi E hn (GP hs) ht (fun c a w h=>h.elim) f listed a w F (Region.free_spec hi hc.1.2) J ?_ W (k (F.set J E) W _ (O.put (Ep.h Y)))
 exact .inl ⟨by simp [Region.wanted,hg],fun w' I=>h w' I a O w' (Bl.refl w')⟩
theorem Kv.ya{o:Oper}{Ψ:Value->Prop}(i:Nat)(I:Gi ops n=true)(hi:ops[i]? =some o)(hc:(Nat.blt i n&&Region.free .any ops listed i&&(Region.ready .any ops listed).contains i)=true)(U:o.guard=none)(E:Ep N o.dst=true)
 (h:YA P N K o Ψ) (k:∀v,Ψ v->Kv P N ops n (noPan Q) p w0 f (listed.setIfInBounds i true) (DE K o.dst v) w):Kv P N ops n (noPan Q) p w0 (f+1) listed K w:=by
 obtain⟨v,J,F⟩:=h;exact Kv.yld i I hi hc U E (fun O _=>J O) (k v F)
theorem Kv.eff{o:Oper}{R:Value->World->Prop}(i:Nat)(hi:ops[i]? =some o)(I:Nat.blt i n=true)(F:Region.ready .any ops listed=[i])(hg:o.guard=none)(hd:Ep N o.dst=true)
 (h:Jv P N K o w R) (k:∀v w',R v w'->Cb p w0 w'∧Kv P N ops n (noPan Q) p w0 f (listed.setIfInBounds i true) (DE K o.dst v) w'):Kv P N ops n (noPan Q) p w0 (f+1) listed K w:=by
 intro O hx a Z
 have E:i<n:=by have J:=I;simp [Nat.blt]at J;omega
 have W:i∈Region.ready .any ops listed:=by rw [F];simp
 refine⟨fun h0=>(by rw [h0]at F;cases F),fun j Y=>?_⟩
 rw [F]at Y
 have U:j=i:=by simpa using Y
 subst U
 unfold wpOp
 simp only [hi]
 rw [BE (by simp [Region.wanted,hg])]
 refine .inl (h a Z _ _ fun u w' hR=>?_)
 obtain⟨h1,J⟩:=k u w' hR
 exact⟨fun _=>h1,J (O.set W E) h1 _ (Z.put (Ep.h hd))⟩
theorem Kv.tail{l:List Oper}(F:ops=l.toArray)(E:Region.seqB .any ops (l.drop n).length n listed=true)(I:f=(l.drop n).length)(k:TL P N ops (noPan Q) (l.drop n) K w):Kv P N ops n (noPan Q) p w0 f listed K w:=by
 intro J U a O
 rw [I]
 exact FP.seq (l.drop n) n listed a w (fun j=>by rw [F,Cv];simp) (Bj n) E (k a O)
theorem WC.heldG{id:Nat}{l:List Oper}(n:Nat)(hm:P.follows .mixedOrders=true)
 (h:∀w',Bl w w'->Kv P N l.toArray n (noPan Q) p w' l.length (Array.replicate l.length false) K w'):WC P N (.region id l.toArray true) Q K w:=by
 intro a I
 have E:HeadInv .any l.toArray n (Array.replicate l.length false):=
  ⟨by simp,fun j oj _ hl=>(by rw [getD_replicate_false]at hl;cases hl),fun t _ J=>getD_in (by simpa using J) (getD_replicate_false _ _)⟩
 refine Code.wp_mono ?_ (wp_region_any hm (FP.any _ _ _ _ (h w.drew (Bl.drew w) (by simpa using E) (Cb.refl p _) a I)))
 intro e a w F
 cases e<;>first|exact F|exact F.elim
theorem BK.but{b off:Nat}{us:List Value}(h:BK w b off us)(I:Cb p w w0)(E:∀k,p k->k≠b)(F:b<w.heap.size):BK w0 b off us:=h.block (I.block b F (fun e=>E b e rfl))
end
/-! ## What is left out within what is left out -/
section
variable {P:Program} {N:Nat} {ops:Array Oper} {Q:Exit -> Act -> World -> Prop} {K:KL} {w:World} {o:Oper} {rest:List Oper} {Qa:Act -> Prop}
end
end Go.Eng
namespace Go.Eng
open Go Go.RowKit
/-! ## YM laws on the statements' marks -/
theorem wSE{i:Nat}(h:i<4611686018427387904):IntKind.wrap IntKind.i64 ((i:Int)+1)=((i+1:Nat):Int):=by rw [BV (by omega) (by omega)];simp
end Go.Eng
namespace Go.Eng
open Go Go.RowKit
/-! ## Arrays in a box, texts put together, bytes as a text -/
section
variable {P:Program} {N:Nat} {K:KL} {o:Oper} {w:World}
theorem Qf{t x i e b off k m sz len}(ho:o.op= .indexAddr t x i)(hu:P.underlying t=some (.array len e))(hc:Cp P e=some sz)(I:ES K x=some (.pointer (some ⟨b,off,none⟩)))
 (hi:ES K i=some (.int k m)) (F:0<=m∧m<(len:Int)):HX P N K o w (.pointer (some ⟨b,off+m.toNat*sz,none⟩)):=by
 intro a E w' _
 obtain⟨i,hi2,J⟩:=BL.1 hc
 simp [execOp,ho,E.ev I,E.ev hi,Instr.indexAt,Instr.sureAddr,asIntOf,CO hu,F.1,F.2,sizeOf,typeInfo,hi2,J,Fa]
def SB(x y:ByteArray):Option ByteArray:=if ((x.size+y.size:Nat):Int)>IntKind.i64.max then none else some (x++y)
theorem Qm{t x y u m n r}(ho:o.op= .binOp .add t x y u)(J:ES K x=some (.string m))(I:ES K y=some (.string n))(E:SB m n=some r):HX P N K o w (.string r):=by
 intro a F w' _
 unfold SB at E
 split at E
 ·cases E
 ·rename_i O
  obtain rfl:=Ai E
  have e:(binOp .add t (.string m) (.string n)).run P w'= .ok (.string (m++n)) w':=by
   show(Op.stringOp .add m n).run P w'=_
   unfold Op.stringOp
   rw [BU O];rfl
  simp [execOp,ho,F.ev J,F.ev I,eqGuard,DP,e]
def WF(xs:List Int):ByteArray:=xs.foldl (fun r n=>r.push (UInt8.ofNat n.toNat)) ByteArray.empty
theorem Rb{s t x e v xs S}(ho:o.op= .convert s t x)(hs:P.underlying s=some (.slice e))(Z:P.underlying e=some (.int .u8))(ht:P.underlying t=some .string)(hx:ES K x=some v)(hr:Ae (CR .u8) w S xs v):
 HX P N K o w (.string (WF xs)):=by
 intro a hK w' O
 obtain⟨I,E,rfl,⟨h2,h3⟩,h4,J⟩:=hr
 have e1:=run_convert_bytes_string (P:=P) w' s t e I xs.length E hs Z ht
 have e2:(Conv.bytesToString (.slice I xs.length E)).run P w'= .ok (.string (WF xs)) w':=by
  cases I with
  |none=>
   have:xs=[]:=by
    cases xs with
    |nil=>rfl
    |cons y ys=>obtain⟨b,off,q,_⟩:=J (by simp);cases q
   subst this;rfl
  |some I=>
   refine run_bytesToString w' I xs.length E xs ?_
   by_cases hl:0<xs.length
   ·obtain⟨b,off,q,_,U⟩:=J hl
    obtain rfl:=Ai q
    have:=run_loadCells_list (P:=P) w' ⟨b,off,none⟩ (xs.map (Value.int .u8)) (fun j v F=>by
     rw [FR]at F
     cases hx2:xs[j]? with
     |none=>rw [hx2]at F;cases F
     |some y=>
      rw [hx2]at F
      obtain rfl:=Ai F
      obtain⟨us,h7,Y⟩:=U j y hx2
      obtain rfl:us=[.int .u8 y]:=h7
      have W:=Y.ext O 0 _ rfl
      rw [Fa]
      simpa [CR] using W.1)
    simpa using this
   ·have:xs=[]:=by
     cases xs with
     |nil=>rfl
     |cons y ys=>simp at hl
    subst this;rfl
 simp [execOp,ho,hK.ev hx,e1,e2]
def SS(P:Program)(t f:Nat):Option (Nat×Nat):=match P.underlying t with
 |some (.struct fs)=>fs[f]?.map fun q=>(q.type,q.offset)
 |_=>none
theorem Yc{t f F off:Nat}(h:SS P t f=some (F,off)):∃fs q,P.underlying t=some (.struct fs)∧fs[f]? =some q∧q.type=F∧q.offset=off:=by
 unfold SS at h
 split at h
 ·rename_i fs hu
  obtain⟨q,I,E⟩:=BL.1 h
  simp only [EE]at E
  exact⟨fs,q,hu,I,E.1,E.2⟩
 ·cases h
theorem Sw{t x f us u ft off}(ho:o.op= .field t x f)(E:SS P t f=some (ft,off))(F:Ei P ft=some false)(U:ES K x=some (.agg (List.toArray us)))(hu:us[off]? =some u):HX P N K o w u:=by
 intro a O w' _
 obtain⟨fs,q,J,I,rfl,rfl⟩:=Yc E
 simp [execOp,ho,O.ev U,Instr.field,CO J,I,asAgg,part,KR F,hu,DP]
end
/-! ## YM laws on sizes and marks -/
theorem SJ{x y:ByteArray}(h:x.size+y.size<=4611686018427387904):SB x y=some (x++y):=by
 unfold SB
 rw [BU (by show¬_>(9223372036854775807:Int);omega)]
theorem Ra(xs:List Int):(WF xs).size=xs.length:=by
 have:∀(xs:List Int) (b:ByteArray),(xs.foldl (fun r n=>r.push (UInt8.ofNat n.toNat)) b).size=b.size+xs.length:=by
  intro xs;induction xs with
  |nil=>intro b;rfl
  |cons x xs E=>intro b;rw [List.foldl_cons,E,ByteArray.size_push,DO];omega
 have:=this xs ByteArray.empty
 simpa [WF] using this
end Go.Eng
namespace Go.Eng
open Go Go.RowKit Go.ChangeShapes Go.WideShapes Go.ChangeAt
/-! ## A statement whose answer is true, where package-level variables are laid -/
theorem oM{C:Checked}{os:Os}{f:FuncId}{fn:Func}{s:ChangeSpec}{O:List PathCond}{H:Type}{enc:TypeId×Value->H}{tb:TypeId}{I:List (String×DataW Unit)}
 (own:ownKnob C.prog.godebug=none) (F:os.Started) (Y:C.prog.inits.idxOf? f=none) (b2:C.prog.funcs[f]? =some fn)
 (U:∃(w:World) (E:Tape) (i:Input),w.os=os∧(w.forCall E i).Shaped C.prog∧i.vars=[]∧Input.okWide C.prog (w.forCall E i) .any w.heap.size f i∧
  ((s.pre enc C.prog fn O false (w.forCall E i).memory i.args∧laidMetH C.prog I (w.forCall E i).memory)∧sizedMet enc C.prog fn (OpenSpec.ofChange s) false (w.forCall E i).memory i.args)∧({}:Assume).holds C.prog (lone (Frame.enter C.prog f i.args .normal) [] (w.forCall E i)))
 (hl:laidOutB C.prog=true) (J:s.vars=[]) (Z:∀ds:List (DataW H),ds.length=fn.params.toList.length->s.fn H ds={ results:=[.lit (.bool true)],args:=ds })
 (hrt:fn.resultTypes= #[tb]) (hub:C.prog.underlying tb=some .bool) (hpar:∀t∈fn.params.toList,C.prog.readableRec t=true∧t<C.prog.types.size)
 (run:∀(W:World) (base:Nat) (args:Array Value) (ds:List (DataW H)) (p:List MemPlace),
  (∀(j:Nat) t v,fn.params[j]? =some t->args[j]? =some v->Value.okWide C.prog W .any base t v)->
  DataW.TrodAll enc C.prog W 0 (fun _=>true) true fn.params.toList args.toList ds p->W.noneFrozen p->
  Calls C.prog f args W (Gh fun u w2=>u= .bool true∧Bl W w2)):
 ReturnsInHanded {} C os f .any (fun w args=>(s.pre enc C.prog fn O false w args∧laidMetH C.prog I w)∧sizedMet enc C.prog fn (OpenSpec.ofChange s) false w args) (s.post enc C.prog fn false true false false):=by
 refine returnsInHanded_of_change_and (X:=fun w _=>laidMetH C.prog I w) (fun _ _ _ hh h=>h.of_heap hh) own F Y b2 U ?_
 intro W base args ds gs b1 a0 hW _ _ _ _
 have b0:=hW
 obtain⟨p,q,hA,hV,rfl,hz,_⟩:=hW
 rw [J]at hV
 obtain⟨rfl,rfl⟩:=trodVars_none hV
 refine(run W base args ds p a0 hA (fun b' o' hm=>hz b' o' (FW _ hm))).mono fun e W' ⟨v,he,hv,hB⟩=>?_
 subst hv
 have e1:s.fn H (ds++[])={ results:=[.lit (.bool true)],args:=ds }:=by rw [Gq];exact Z ds (Rn hA)
 refine⟨_,he,ds,[],p++[],[],p,[],b0,?_,?_,?_,hB.frame _,fun h=>by cases h⟩
 ·rw [e1,hrt]
  exact⟨[],[],⟨1,by simp [DataW.trod,Value.cells,hub]⟩,rfl,rfl⟩
 ·rw [e1]
  exact Pf hl hB hpar hA (fun x hx=>b0.lt x (FW _ hx))
 ·rw [e1,J];rfl
section
variable {H:Type} {enc:TypeId × Value -> H} {P:Program} {w:World} {base:Nat} {spare:Nat -> Bool} {held:Bool}
theorem rT{t:TypeId}{ts:List TypeId}{vs:List Value}{ds:List (DataW H)}{I:List MemPlace}(h:DataW.TrodAll enc P w base spare held (t::ts) vs ds I):
 ∃v F d E p q,vs=v::F∧ds=d::E∧DataW.Trod enc P w base spare held t v d p∧DataW.TrodAll enc P w base spare held ts F E q:=by
 match vs,ds,h with
 |v::F,d::E,⟨p,q,h1,h2,_⟩=>exact⟨v,F,d,E,p,q,rfl,rfl,h1,h2⟩
theorem sT{vs:List Value}{ds:List (DataW H)}{E:List MemPlace}(h:DataW.TrodAll enc P w base spare held [] vs ds E):vs=[]∧ds=[]:=by
 match vs,ds,h with
 |[],[],_=>exact⟨rfl,rfl⟩
theorem qF{t:TypeId}{ts:List TypeId}{vs:List Value}{ds:List (DataW H)}{I:List MemPlace}(h:DataW.TrodAll enc P w base spare held (t::ts) vs ds I)(hz:w.noneFrozen I):
 ∃v F d E p q,vs=v::F∧ds=d::E∧DataW.Trod enc P w base spare held t v d p∧w.noneFrozen p∧DataW.TrodAll enc P w base spare held ts F E q∧w.noneFrozen q:=by
 match vs,ds,h with
 |v::F,d::E,⟨p,q,h1,h2,e⟩=>subst e;exact⟨v,F,d,E,p,q,rfl,rfl,h1,fun b o hm=>hz b o (FW _ hm),h2,fun b o hm=>hz b o (List.mem_append_right _ hm)⟩
theorem zM{a:Array Value}{l:List Value}(h:a.toList=l):a=l.toArray:=by rw [←h]
end
section
variable {P:Program} {N:Nat} {K:KL} {o:Oper} {w w0:World}
theorem Mh{α:Type}{c:FC α}{B:Nat}{S:Nat->Prop}{e:TypeId}{xs:List α}{v:Value}{t x}(ho:o.op= .call { callee:=.builtin .len,args:=#[x],argTypes:=#[t] })(hu:P.underlying t=some (.slice e))(hx:ES K x=some v)(hs:AS c w0 B S e xs v):
 HX P N K o w (.int .i64 xs.length):=by
 obtain⟨cs,⟨_,⟨rfl,I⟩|⟨g,F,E,rfl,_⟩⟩,_⟩:=hs
 ·have:=PO (N:=N) (w:=w) ho hu hx;rw [I];exact this
 ·exact PO ho hu hx
theorem gH{α:Type}{c:FC α}{e:TypeId}{xs:List α}{v:Value}{S:Nat->Prop}{t x}(ho:o.op= .call { callee:=.builtin .len,args:=#[x],argTypes:=#[t] })(hu:P.underlying t=some (.slice e))(hx:ES K x=some v)(hs:Ae c w0 S xs v):
 HX P N K o w (.int .i64 xs.length):=by
 obtain⟨a,E,rfl,F,J,I⟩:=hs
 exact PO ho hu hx
end
end Go.Eng
namespace Go.Eng
open Go Go.RowKit
/-! ## Orders of a drawn region that writes -/
section
variable {P:Program} {N:Nat} {ops:Array Oper} {Q:Exit -> Act -> World -> Prop} {n:Nat} {K:KL} {w w0:World} {f:Nat} {listed:Array Bool} {p:Nat -> Prop}
def sR(P:Program)(N:Nat)(ops:Array Oper)(n:Nat)(Q:Exit->Act->World->Prop)(p:Nat->Prop)(w0:World)(f:Nat)(listed:Array Bool)(K:KL)(w:World)(j:Nat):Prop:=
 HeadInv .any ops n listed->Cb p w0 w->∀a,Kn N K a->wpOp P ops Q j (fun a' w'=>(j<n->Cb p w0 w')∧FP P .any ops n Q (fun w'=>Cb p w0 w') f (listed.setIfInBounds j true) a' w') a w
theorem Kv.many{js:List Nat}(J:Region.ready .any ops listed=js)(E:js.isEmpty=false)(h:∀j∈js,sR P N ops n Q p w0 f listed K w j):Kv P N ops n Q p w0 (f+1) listed K w:=by
 intro F W a U
 refine⟨fun O=>(by rw [J]at O;subst O;cases E),fun j I=>?_⟩
 rw [J]at I
 exact h j I F W a U
theorem sR.eff{o:Oper}{R:Value->World->Prop}(i:Nat)(hi:ops[i]? =some o)(F:Nat.blt i n=true)(hr:(Region.ready .any ops listed).contains i=true)(hg:o.guard=none)(Y:Ep N o.dst=true)
 (h:Jv P N K o w R) (k:∀v w',R v w'->Cb p w0 w'∧Kv P N ops n (noPan Q) p w0 f (listed.setIfInBounds i true) (DE K o.dst v) w'):sR P N ops n (noPan Q) p w0 f listed K w i:=by
 intro J hx a U
 have E:i<n:=by have I:=F;simp [Nat.blt]at I;omega
 have O:i∈Region.ready .any ops listed:=by simpa using hr
 unfold wpOp
 simp only [hi]
 rw [BE (by simp [Region.wanted,hg])]
 refine .inl (h a U _ _ fun u w' Z=>?_)
 obtain⟨W,I⟩:=k u w' Z
 exact⟨fun _=>W,I (J.set O E) W _ (U.put (Ep.h Y))⟩
theorem Cb.trans(h:Cb p w0 w){E:World}(F:Cb p w E):Cb p w0 E:=h.but F fun _ hk=>.inl hk
theorem Kv.shrink(h:Kv P N ops n Q p w f listed K w):Kv P N ops n Q p w0 f listed K w:=by
 intro E J a I
 exact FP.mono (fun O F=>Cb.trans J F) _ _ _ _ (h E (Cb.refl p w) a I)
end
end Go.Eng
namespace Go.Eng
open Go Go.RowKit
/-! ## The beginning of an own slice -/
def pR(v:Value)(m:Nat):Value:=match v with
 | .slice a _ cap=>.slice a m cap
 |v=>v
section
variable {P:Program} {N:Nat} {o:Oper} {K:KL} {w:World}
variable {α:Type} {c:FC α} {B:Nat} {S:Nat -> Prop} {e:TypeId} {xs:List α} {v:Value}
theorem dN{m:Nat}:(pR v m).ownBlock=v.ownBlock:=by
 cases v with
 |slice a n E=>cases a<;>rfl
 |_=>rfl
theorem AS.cut(h:AS c w B S e xs v){m:Nat}(hm:m<=xs.length):AS c w B S e (xs.take m) (pR v m):=by
 obtain⟨cs,⟨hl,O⟩,J⟩:=h
 have U:m*c.n<=xs.length*c.n:=CC _ hm
 refine⟨cs.take (m*c.n),⟨?_,?_⟩,?_⟩
 ·rw [EC,EC]
  rw [show min m xs.length=m by omega];omega
 ·rw [EC,show min m xs.length=m by omega]
  rcases O with ⟨rfl,W⟩|⟨g,F,E,rfl,a1,a2,a3,a4,a5,a6⟩
  ·obtain rfl:m=0:=by omega
   exact .inl ⟨rfl,rfl⟩
  ·refine .inr ⟨g,F,E,rfl,a1,a2,by omega,a4,a5,?_⟩
   rw [←a6,List.take_take]
   congr 1;omega
 ·intro i x I
  have hi:i<m:=by
   have:=(AR.1 I).1
   rw [EC]at this;omega
  rw [List.getElem?_take_of_lt hi]at I
  have:=J i x I
  have e1:CG (cs.take (m*c.n)) c.n i=CG cs c.n i:=by
   unfold CG
   have:(i+1)*c.n<=m*c.n:=CC _ (by omega)
   rw [Cy]at this
   rw [List.drop_take,List.take_take]
   congr 1;omega
  rw [e1];exact this
end
end Go.Eng
namespace Go.Eng
open Go Go.RowKit
/-! ## Steps that ask for no fact, many at once -/
def qL(op:BinOp)(k:IntKind)(m n:Int):Option Value:=match op with
 | .add=>some (.int k (k.wrap (m+n)))
 | .sub=>some (.int k (k.wrap (m-n)))
 | .mul=>some (.int k (k.wrap (m*n)))
 | .quo=>bif n==0 then none else some (.int k (k.wrap (m.tdiv n)))
 | .rem=>bif n==0 then none else some (.int k (m.tmod n))
 | .lss=>some (.bool (decide (m<n)))
 | .leq=>some (.bool (decide (m<=n)))
 | .gtr=>some (.bool (decide (m>n)))
 | .geq=>some (.bool (decide (m>=n)))
 | .eql=>some (.bool (m==n))
 | .neq=>some (.bool (m !=n))
 |_=>none
def yq(K:KL)(p:Op):Option Value:=match p with
 | .move x=>ES K x
 | .assign x=>ES K x
 | .binOp op _ x y _=>match ES K x,ES K y with
  |some (.int k m),some (.int k' n)=>bif decide (k=k')then qL op k m n else none
  |some (.string a),some (.string b)=>match op with
   | .eql=>some (.bool (a.toList==b.toList))
   | .neq=>some (.bool (a.toList !=b.toList))
   |_=>none
  |_,_=>none
 | .unOp u _ x=>match ES K x with
  |some (.bool b)=>match u with
   | .not=>some (.bool (!b))
   |_=>none
  |some (.int k m)=>match u with
   | .neg=>some (.int k (k.wrap (0-m)))
   |_=>none
  |_=>none
 | .extract x i=>match ES K x with
  |some (.tuple vs)=>vs[i]?
  |_=>none
 | .pick c x y=>match ES K c with
  |some (.bool b)=>match b with
   |true=>ES K x
   |false=>ES K y
  |_=>none
 |_=>none
section
variable {P:Program} {N:Nat}
theorem jP{K:KL}{o:Oper}{w:World}{op t x y u k m n v}(ho:o.op= .binOp op t x y u)(E:ES K x=some (.int k m))(F:ES K y=some (.int k n))(h:qL op k m n=some v):HX P N K o w v:=by
 cases op<;>simp only [qL,EO,reduceCtorEq]at h
 case add=>subst h;exact LZ ho E F
 case sub=>subst h;exact iV ho E F
 case mul=>subst h;exact LP ho E F
 case quo=>obtain⟨I,J⟩:=PY h;obtain rfl:=Ai J;exact Ul ho E F I
 case rem=>obtain⟨I,J⟩:=PY h;obtain rfl:=Ai J;exact NN ho E F I
 case lss=>subst h;exact kN ho E F
 case leq=>subst h;exact gZ ho E F
 case gtr=>subst h;exact jJ ho E F
 case geq=>subst h;exact jW ho E F
 case eql=>subst h;exact iP ho E F
 case neq=>subst h;exact iC ho E F
theorem LV{K:KL}{o:Oper}{w:World}{v:Value}(h:yq K o.op=some v):HX P N K o w v:=by
 generalize ho:o.op=p at h
 cases p<;>simp only [yq,reduceCtorEq]at h
 case move=>exact OA ho h
 case assign=>exact XU ho h
 case binOp=>
  split at h
  ·rename_i k m I n E F
   by_cases hk:k=I
   ·subst hk;rw [Aw rfl]at h;exact jP ho E F h
   ·rw [Av hk]at h;cases h
  ·rename_i a b E F
   split at h
   ·obtain rfl:=Ai h;exact jL ho E F
   ·obtain rfl:=Ai h;exact kO ho E F
   ·cases h
  ·cases h
 case unOp=>
  split at h
  ·rename_i b E
   split at h
   ·obtain rfl:=Ai h;exact gW ho E
   ·cases h
  ·rename_i k m E
   split at h
   ·obtain rfl:=Ai h;exact gX ho E
   ·cases h
  ·cases h
 case extract=>
  split at h
  ·rename_i vs E;exact HJ ho E h
  ·cases h
 case pick=>
  split at h
  ·rename_i b hc
   split at h
   ·exact XQ ho hc rfl h
   ·exact Wn ho hc rfl h
  ·cases h
end
inductive Gd where
 |yes|skip|no
def Iy(N:Nat)(ops:Array Oper)(K:KL)(o:Oper):Gd:=match Ep N o.dst with
 |false=>.no
 |true=>match o.guard with
  |none=>.yes
  |some (j,want)=>match Rf ops j with
   |none=>.no
   |some t=>match kl K t with
    |some (.bool b)=>match b with
     |true=>match want with
      |true=>.yes
      |false=>.skip
     |false=>match want with
      |true=>.skip
      |false=>.yes
    |some (.tuple _)=>.skip
    |_=>.no
section
variable {P:Program} {N:Nat} {ops:Array Oper} {Q:Exit -> Act -> World -> Prop} {K:KL} {w:World} {o:Oper} {rest:List Oper} {Qa:Act -> Prop}
theorem PG{g:Gd}(h:Iy N ops K o=g)(E:g≠ .no):Ep N o.dst=true:=by
 subst h
 cases hd:Ep N o.dst with
 |true=>rfl
 |false=>exact absurd (by simp [Iy,hd]) E
theorem JU(h:Iy N ops K o= .yes){a:Act}(I:Kn N K a):Region.wanted o (yielded ops a.tmps)=true:=by
 unfold Iy at h
 split at h
 ·cases h
 split at h
 ·rename_i F;simp [Region.wanted,F]
 ·rename_i j E F
  split at h
  ·cases h
  ·rename_i t O
   split at h
   ·rename_i b J
    refine Wu I F O J ?_
    cases b<;>cases E<;>first|rfl|cases h
   ·cases h
   ·cases h
theorem Sh(h:Iy N ops K o= .skip){a:Act}(J:Kn N K a):Region.wanted o (yielded ops a.tmps)=false:=by
 unfold Iy at h
 split at h
 ·cases h
 split at h
 ·cases h
 ·rename_i j E O
  split at h
  ·cases h
  ·rename_i t I
   split at h
   ·rename_i b F
    refine Yz J O I F ?_
    cases b<;>cases E<;>first|rfl|cases h
   ·rename_i x F
    have U:=J.get t _ F
    unfold Rf at I
    simp [Region.wanted,O,yielded,I,U]
   ·cases h
theorem Yl{v:Value}(F:Iy N ops K o= .yes)(h:HX P N K o w v)(k:TL P N ops Q rest (DE K o.dst v) w):TL P N ops Q (o::rest) K w:=by
 intro a E
 unfold wpList
 rw [BE (JU F E)]
 exact .inl (h.eff a E _ Q fun u w' ⟨e1,e2⟩=>by subst e1 e2;exact k _ (E.put (Ep.h (PG F (by simp)))))
theorem Ef{R:Value->World->Prop}(F:Iy N ops K o= .yes)(h:Jv P N K o w R)(k:∀v w',R v w'->TL P N ops Q rest (DE K o.dst v) w'):TL P N ops Q (o::rest) K w:=by
 intro a E
 unfold wpList
 rw [BE (JU F E)]
 exact .inl (h a E _ Q fun u w' I=>k u w' I _ (E.put (Ep.h (PG F (by simp)))))
theorem Ye{Ψ:Value->Prop}(I:Iy N ops K o= .yes)(h:YE P N K o w Ψ)(k:∀v,Ψ v->TL P N ops Q rest (DE K o.dst v) w):TL P N ops Q (o::rest) K w:=by
 obtain⟨v,E,F⟩:=h;exact Yl I E (k v F)
theorem Sk(F:Iy N ops K o= .skip)(k:TL P N ops Q rest (DE K o.dst undef) w):TL P N ops Q (o::rest) K w:=by
 intro a E
 unfold wpList
 rw [BU (by rw [Sh F E];exact Bool.false_ne_true)]
 exact k _ (E.put (Ep.h (PG F (by simp))))
theorem Ql{v:Value}(I:Iy N ops K o= .yes)(h:zJ P N K o w v)(k:QL P N ops w Qa rest (DE K o.dst v)):QL P N ops w Qa (o::rest) K:=by
 intro a E
 unfold wpQuiet
 rw [BE (JU I E)]
 exact⟨v,fun w' F=>h a E w' F,k _ (E.put (Ep.h (PG I (by simp))))⟩
theorem Qy{v:Value}(E:Iy N ops K o= .yes)(h:HX P N K o w v)(k:QL P N ops w Qa rest (DE K o.dst v)):QL P N ops w Qa (o::rest) K:=Ql E h.qui k
theorem Qe{Ψ:Value->Prop}(I:Iy N ops K o= .yes)(h:YE P N K o w Ψ)(k:∀v,Ψ v->QL P N ops w Qa rest (DE K o.dst v)):QL P N ops w Qa (o::rest) K:=by
 obtain⟨v,E,F⟩:=h;exact Qy I E (k v F)
theorem Qs(F:Iy N ops K o= .skip)(k:QL P N ops w Qa rest (DE K o.dst undef)):QL P N ops w Qa (o::rest) K:=by
 intro a E
 unfold wpQuiet
 rw [BU (by rw [Sh F E];exact Bool.false_ne_true)]
 exact k _ (E.put (Ep.h (PG F (by simp))))
theorem Kn.know{a:Act}{t:Nat}{u I:Value}(F:Kn N K a)(h:kl K t=some u)(e:u=I):Kn N ((t,I)::K) a:=by
 subst e
 refine⟨F.df,F.sz,fun s v E=>F.get s v ?_⟩
 simp only [kl]at E
 cases hb:Nat.beq t s with
 |true=>obtain rfl:=Bh hb;rw [hb]at E;simp at E;subst E;exact h
 |false=>rw [hb]at E;simpa using E
theorem Kc(t:Nat){b E:Bool}{l:List Oper}(e:b=E)(h:kl K t=some (.bool b))(k:TL P N ops Q l ((t,.bool E)::K) w):TL P N ops Q l K w:=fun a F=>k a (F.know h (by rw [e]))
theorem Kq(t:Nat){b E:Bool}{l:List Oper}(e:b=E)(h:kl K t=some (.bool b))(k:QL P N ops w Qa l ((t,.bool E)::K)):QL P N ops w Qa l K:=fun a F=>k a (F.know h (by rw [e]))
theorem yZ{c b:Bool}(h:c=true):b=(c&&b):=by subst h;rfl
theorem zN{c b:Bool}(h:c=false):false=(c&&b):=by subst h;rfl
theorem zB{c b:Bool}(h:c=true):true=(c||b):=by subst h;rfl
theorem yX{c b:Bool}(h:c=false):b=(c||b):=by subst h;rfl
end
inductive Frame where
 |seq (c:Code)
 |blk (id:Nat)
 |lp (f:Act->World->Prop)
inductive Md where
 |c (c:Code)
 |o (ops:Array Oper) (l:List Oper)
 |e (e:Exit)
section
variable (P:Program) (N:Nat) (Q0:Exit -> Act -> World -> Prop)
def IQ:List Frame->Exit->Act->World->Prop
 |[]=>Q0
 | .seq c::fs=>Exit.then (fun a w=>c.wp P (IQ fs) a w) (IQ fs)
 | .blk id::fs=>Exit.inBlock id (IQ fs)
 | .lp f::fs=>Exit.then f (IQ fs)
def zA(m:Md)(fs:List Frame)(K:KL)(w:World):Prop:=match m with
 | .c c=>WC P N c (IQ P Q0 fs) K w
 | .o ops l=>TL P N ops (IQ P Q0 fs) l K w
 | .e e=>NX N (IQ P Q0 fs) e K w
def Ku:Nat->Md->List Frame->KL->World->Prop
 |0=>fun m fs K w=>zA P N Q0 m fs K w
 |n+1=>fun m fs K w=>match m with
  | .c c=>match c with
   | .seq x y=>Ku n (.c x) (.seq y::fs) K w
   | .region _ ops false=>Ku n (.o ops ops.toList) fs K w
   | .block id x=>Ku n (.c x) (.blk id::fs) K w
   | .skip=>Ku n (.e .normal) fs K w
   | .exit id=>Ku n (.e (.exit id)) fs K w
   | .ret=>Ku n (.e .ret) fs K w
   |_=>False
  | .o ops l=>match l with
   |[]=>Ku n (.e .normal) fs K w
   |o::rest=>match Iy N ops K o with
    | .yes=>match yq K o.op with
     |some v=>Ku n (.o ops rest) fs (DE K o.dst v) w
     |none=>False
    | .skip=>Ku n (.o ops rest) fs (DE K o.dst undef) w
    | .no=>False
  | .e e=>match fs with
   |[]=>False
   | .seq c::fs=>match e with
    | .normal=>Ku n (.c c) fs K w
    | .ret=>Ku n (.e .ret) fs K w
    | .exit id=>Ku n (.e (.exit id)) fs K w
    |_=>False
   | .blk id::fs=>match e with
    | .normal=>Ku n (.e .normal) fs K w
    | .ret=>Ku n (.e .ret) fs K w
    | .exit id'=>bif Nat.beq id' id then Ku n (.e .normal) fs K w else Ku n (.e (.exit id')) fs K w
    |_=>False
   | .lp f::fs=>match e with
    | .normal=>∀a,Kn N K a->f a w
    | .ret=>Ku n (.e .ret) fs K w
    | .exit id=>Ku n (.e (.exit id)) fs K w
    |_=>False
end
section
variable {P:Program} {N:Nat} {Q0:Exit -> Act -> World -> Prop}
theorem Ku.ok:∀(n:Nat) {m:Md} {fs:List Frame} {K:KL} {w:World},Ku P N Q0 n m fs K w->zA P N Q0 m fs K w
 |0,_,_,_,_,h=>h
 |n+1,m,fs,K,w,h=>by
  cases m with
  |c c=>
   cases c with
   |seq x y=>exact WC.seq (Ku.ok n h)
   |region id ops d=>
    cases d with
    |false=>
     have F:TL P N ops (IQ P Q0 fs) ops.toList K w:=Ku.ok n h
     show WC P N (.region id ops false) (IQ P Q0 fs) K w
     have:ops=ops.toList.toArray:=by simp
     rw [this];rw [this]at F
     exact WC.region (by simpa using F)
    |true=>exact h.elim
   |block id x=>exact WC.block (Ku.ok n h)
   |skip=>exact WC.skip' (Ku.ok n h)
   |exit id=>exact WC.exit' (Ku.ok n h)
   |ret=>exact WC.ret' (Ku.ok n h)
   |cond _ _ _=>exact h.elim
   |loop _=>exact h.elim
   |_=>exact h.elim
  |o ops l=>
   cases l with
   |nil=>exact TL.done (Ku.ok n h)
   |cons o rest=>
    simp only [Ku]at h
    split at h
    ·rename_i E
     split at h
     ·rename_i v I;exact Yl E (LV I) (Ku.ok n h)
     ·exact h.elim
    ·rename_i E;exact Sk E (Ku.ok n h)
    ·exact h.elim
  |e e=>
   cases fs with
   |nil=>exact h.elim
   |cons f fs=>
    cases f with
    |seq c=>
     cases e with
     |normal=>exact NX.seq (Ku.ok n h)
     |ret=>exact NX.then_r (Ku.ok n h)
     |exit id=>exact NX.then_e (Ku.ok n h)
     |_=>exact h.elim
    |blk id=>
     cases e with
     |normal=>exact NX.blk_n (Ku.ok n h)
     |ret=>exact NX.blk_r (Ku.ok n h)
     |exit id'=>
      simp only [Ku]at h
      cases hb:Nat.beq id' id with
      |true=>
       rw [hb]at h
       obtain rfl:=Bh hb
       exact NX.blk_hit (Ku.ok n h)
      |false=>rw [hb]at h;exact NX.blk_miss hb (Ku.ok n h)
     |_=>exact h.elim
    |lp f=>
     cases e with
     |normal=>exact NX.then_n h
     |ret=>exact NX.then_r (Ku.ok n h)
     |exit id=>exact NX.then_e (Ku.ok n h)
     |_=>exact h.elim
variable {K:KL} {w:World} {fs:List Frame} {ops:Array Oper}
theorem Rc(n:Nat){c:Code}(h:Ku P N Q0 n (.c c) fs K w):WC P N c (IQ P Q0 fs) K w:=Ku.ok (m:=.c c) n h
theorem Ro(n:Nat){l:List Oper}(h:Ku P N Q0 n (.o ops l) fs K w):TL P N ops (IQ P Q0 fs) l K w:=Ku.ok (m:=.o ops l) n h
theorem Re(n:Nat){e:Exit}(h:Ku P N Q0 n (.e e) fs K w):NX N (IQ P Q0 fs) e K w:=Ku.ok (m:=.e e) n h
theorem AI{f:FuncId}{fn:Func}{c:Code}{vs:List Value}{w:World}{R:Ending->World->Prop}
 (E:P.funcs[f]? =some fn) (I:fn.body=some c) (F:fn.ntmps=N) (h:WC P N c (IQ P (bodyPost P fn R) []) (Sc 0 vs) w):Calls P f vs.toArray w R:=cH E I F h
theorem WC.loopD{c:Code}(I:Nat->Act->World->Prop)(m:Nat)(F:∀a,Kn N K a->I m a w)
 (E:∀m a w,I m a w->c.wp P (IQ P Q0 (.lp (fun J w'=>∃m',m'<m∧I m' J w')::fs)) a w):WC P N (.loop c) (IQ P Q0 fs) K w:=WC.loop I m F E
theorem TL.cutD{l:List Oper}(k:Nat)(K':KL)(R:World->Prop)(E:TL P N ops (IQ P Q0 (.lp (fun I w'=>Kn N K' I∧R w')::fs)) (l.take k) K w)(F:∀w',R w'->TL P N ops (IQ P Q0 fs) (l.drop k) K' w'):TL P N ops (IQ P Q0 fs) l K w:=TL.cut k K' R E F
end
section
variable (P:Program) (N:Nat) (ops:Array Oper)
def iH(Q:Exit->Act->World->Prop):Nat->List Oper->KL->World->Prop
 |0=>fun l K w=>TL P N ops Q l K w
 |n+1=>fun l K w=>match l with
  |[]=>False
  |o::rest=>match Iy N ops K o with
   | .yes=>match yq K o.op with
    |some v=>iH Q n rest (DE K o.dst v) w
    |none=>False
   | .skip=>iH Q n rest (DE K o.dst undef) w
   | .no=>False
def hZ(w:World)(Qa:Act->Prop):Nat->List Oper->KL->Prop
 |0=>fun l K=>QL P N ops w Qa l K
 |n+1=>fun l K=>match l with
  |[]=>False
  |o::rest=>match Iy N ops K o with
   | .yes=>match yq K o.op with
    |some v=>hZ w Qa n rest (DE K o.dst v)
    |none=>False
   | .skip=>hZ w Qa n rest (DE K o.dst undef)
   | .no=>False
end
section
variable {P:Program} {N:Nat} {ops:Array Oper} {Q:Exit -> Act -> World -> Prop} {Qa:Act -> Prop}
theorem Tr:∀(n:Nat) {l:List Oper} {K:KL} {w:World},iH P N ops Q n l K w->TL P N ops Q l K w
 |0,_,_,_,h=>h
 |n+1,l,K,w,h=>by
  cases l with
  |nil=>exact h.elim
  |cons o rest=>
   simp only [iH]at h
   split at h
   ·rename_i E
    split at h
    ·rename_i v F;exact Yl E (LV F) (Tr n h)
    ·exact h.elim
   ·rename_i E;exact Sk E (Tr n h)
   ·exact h.elim
theorem Qr{w:World}:∀(n:Nat) {l:List Oper} {K:KL},hZ P N ops w Qa n l K->QL P N ops w Qa l K
 |0,_,_,h=>h
 |n+1,l,K,h=>by
  cases l with
  |nil=>exact h.elim
  |cons o rest=>
   simp only [hZ]at h
   split at h
   ·rename_i E
    split at h
    ·rename_i v F;exact Qy E (LV F) (Qr n h)
    ·exact h.elim
   ·rename_i E;exact Qs E (Qr n h)
   ·exact h.elim
end
end Go.Eng
namespace Go.Eng
open Go Go.RowKit
/-! ## Operations, read off at once -/
def jC(K:KL)(p:Op):Option (Nat×Nat×Nat×Nat):=match p with
 | .fieldAddr t x f=>match ES K x with
  |some (.pointer (some ⟨b,off,none⟩))=>some (t,f,b,off)
  |_=>none
 |_=>none
def WT(K:KL)(p:Op):Option (Nat×Nat×Nat):=match p with
 | .load t x=>match ES K x with
  |some (.pointer (some ⟨b,off,none⟩))=>some (t,b,off)
  |_=>none
 |_=>none
def yR(K:KL)(p:Op):Option (Nat×Nat×Nat×Value):=match p with
 | .store t x y=>match ES K x with
  |some (.pointer (some ⟨b,off,none⟩))=>match ES K y with
   |some v=>some (t,b,off,v)
   |none=>none
  |_=>none
 |_=>none
def sU(K:KL)(p:Op):Option (Nat×Value):=match p with
 | .call ⟨.builtin .len,⟨[x]⟩,⟨[t]⟩⟩=>match ES K x with
  |some v=>some (t,v)
  |none=>none
 |_=>none
def YY(K:KL)(p:Op):Option (Nat×Value×IntKind×Int):=match p with
 | .indexAddr t x i=>match ES K x with
  |some v=>match ES K i with
   |some (.int k m)=>some (t,v,k,m)
   |_=>none
  |none=>none
 |_=>none
def sS(K:KL)(p:Op):Option (Nat×List Value):=match p with
 | .call ⟨.value (.func f),xs,_⟩=>match SR K xs.toList with
  |some vs=>some (f,vs)
  |none=>none
 |_=>none
section
variable {P:Program} {N:Nat} {K:KL} {o:Oper} {w:World}
theorem nY{t f b off:Nat}(h:jC K o.op=some (t,f,b,off)):∃x,o.op= .fieldAddr t x f∧ES K x=some (.pointer (some ⟨b,off,none⟩)):=by
 unfold jC at h
 split at h
 ·rename_i I x J ho
  split at h
  ·rename_i O E F
   simp only [EO,EE]at h
   obtain⟨rfl,rfl,rfl,rfl⟩:=h
   exact⟨x,ho,F⟩
  ·cases h
 ·cases h
theorem VB{t b off:Nat}(h:WT K o.op=some (t,b,off)):∃x,o.op= .load t x∧ES K x=some (.pointer (some ⟨b,off,none⟩)):=by
 unfold WT at h
 split at h
 ·rename_i I x ho
  split at h
  ·rename_i J E F
   simp only [EO,EE]at h
   obtain⟨rfl,rfl,rfl⟩:=h
   exact⟨x,ho,F⟩
  ·cases h
 ·cases h
theorem XR{t b off:Nat}{v:Value}(h:yR K o.op=some (t,b,off,v)):∃x y,o.op= .store t x y∧ES K x=some (.pointer (some ⟨b,off,none⟩))∧ES K y=some v:=by
 unfold yR at h
 split at h
 ·rename_i J x y ho
  split at h
  ·rename_i O E I
   split at h
   ·rename_i v' F
    simp only [EO,EE]at h
    obtain⟨rfl,rfl,rfl,rfl⟩:=h
    exact⟨x,y,ho,I,F⟩
   ·cases h
  ·cases h
 ·cases h
theorem eO{t:Nat}{v:Value}(h:sU K o.op=some (t,v)):∃x,o.op= .call { callee:=.builtin .len,args:=#[x],argTypes:=#[t] }∧ES K x=some v:=by
 unfold sU at h
 split at h
 ·rename_i x F ho
  split at h
  ·rename_i v' E
   simp only [EO,EE]at h
   obtain⟨rfl,rfl⟩:=h
   exact⟨x,ho,E⟩
  ·cases h
 ·cases h
theorem XA{t:Nat}{v:Value}{k:IntKind}{m:Int}(h:YY K o.op=some (t,v,k,m)):∃x i,o.op= .indexAddr t x i∧ES K x=some v∧ES K i=some (.int k m):=by
 unfold YY at h
 split at h
 ·rename_i F x i ho
  split at h
  ·rename_i v' E
   split at h
   ·rename_i I m' hi
    simp only [EO,EE]at h
    obtain⟨rfl,rfl,rfl,rfl⟩:=h
    exact⟨x,i,ho,E,hi⟩
   ·cases h
  ·cases h
 ·cases h
theorem fP{f:Nat}{vs:List Value}(h:sS K o.op=some (f,vs)):∃xs ts,o.op= .call { callee:=.value (.func f),args:=xs,argTypes:=ts }∧SR K xs.toList=some vs:=by
 unfold sS at h
 split at h
 ·rename_i I xs ts ho
  split at h
  ·rename_i F E
   simp only [EO,EE]at h
   obtain⟨rfl,rfl⟩:=h
   exact⟨xs,ts,ho,E⟩
  ·cases h
 ·cases h
theorem DJ{t f b off fo:Nat}(h:jC K o.op=some (t,f,b,off))(E:BT P t f=some fo):HX P N K o w (.pointer (some ⟨b,off+fo,none⟩)):=by
 obtain⟨x,ho,F⟩:=nY h;exact Tv ho E F
theorem FB{t b off:Nat}{us:List Value}{T:TypeId}{u:Value}(h:WT K o.op=some (t,b,off))(E:Ei P t=some false)(I:Bu w b us T)(hu:us[off]? =some u):HX P N K o w u:=by
 obtain⟨x,ho,F⟩:=VB h;exact UQ off ho E F I.cells (DA _).symm hu
theorem HW(j:Nat){t b off o0:Nat}{us:List Value}{u:Value}(h:WT K o.op=some (t,b,off))(I:Ei P t=some false)(E:BK w b o0 us)(F:off=o0+j)(hu:us[j]? =some u):HX P N K o w u:=by
 obtain⟨x,ho,J⟩:=VB h;exact UQ j ho I J E F hu
theorem Cw{t b:Nat}{us:List Value}{T:TypeId}(h:WT K o.op=some (t,b,0))(E:Ei P t=some true)(J:Bu w b us T)(I:Cp P t=some us.length):HX P N K o w (.agg us.toArray):=by
 obtain⟨x,ho,F⟩:=VB h;exact UN ho E F J.cells I
theorem GD{t b off:Nat}{us:List Value}(h:WT K o.op=some (t,b,off))(E:Ei P t=some true)(hc:BK w b off us)(I:Cp P t=some us.length):HX P N K o w (.agg us.toArray):=by
 obtain⟨x,ho,F⟩:=VB h;exact UN ho E F hc I
section
variable {α:Type} {c:FC α} {xs:List α} {S:Nat -> Prop} {v:Value} {e:TypeId} {B:Nat}
theorem IF{t:Nat}(h:sU K o.op=some (t,v))(hu:P.underlying t=some (.slice e))(E:Ae c w S xs v):HX P N K o w (.int .i64 xs.length):=by
 obtain⟨x,ho,F⟩:=eO h;exact oE ho hu F E
theorem Ip{t:Nat}(h:sU K o.op=some (t,v))(hu:P.underlying t=some (.slice e))(E:AS c w B S e xs v):HX P N K o w (.int .i64 xs.length):=by
 obtain⟨x,ho,F⟩:=eO h;exact WH ho hu F E
theorem KI{y:α}{t:Nat}{k:IntKind}{m:Int}(h:YY K o.op=some (t,v,k,m))(hu:P.underlying t=some (.slice e))(hc:Cp P e=some c.n)(E:Ae c w S xs v)(F:AU xs m=some y):
 YE P N K o w (fun u=>∃b off us,u= .pointer (some ⟨b,off,none⟩)∧S b∧c.rep w S y us∧BK w b off us):=by
 obtain⟨x,i,ho,I,hi⟩:=XA h;exact Zm ho hu hc I hi E F
theorem Oe{y:α}{t:Nat}{k:IntKind}{m:Int}(h:YY K o.op=some (t,v,k,m))(hu:P.underlying t=some (.slice e))(hc:Cp P e=some c.n)(E:AS c w B S e xs v)(F:AU xs m=some y):
 YE P N K o w (fun u=>∃g us,u= .pointer (some ⟨g,0+m.toNat*c.n,none⟩)∧v.ownBlock=some g∧c.rep w S y us∧BK w g (0+m.toNat*c.n) us):=by
 obtain⟨x,i,ho,I,hi⟩:=XA h;exact QZ ho hu hc I hi E F
end
theorem Ga{f:Nat}{vs:List Value}{R:Value->World->Prop}(h:sS K o.op=some (f,vs))(E:Bm P f=true)(hc:Calls P f vs.toArray w (Gh R)):Jv P N K o w R:=by
 obtain⟨xs,ts,ho,F⟩:=fP h;exact WE ho E F hc
theorem Nm{f:Nat}{vs:List Value}{v:Value}(h:sS K o.op=some (f,vs))(F:Bm P f=true)(hc:∀w',Bl w w'->Calls P f vs.toArray w' (Gh fun u E=>u=v∧Bl w' E)):zJ P N K o w v:=by
 obtain⟨xs,ts,ho,I⟩:=fP h;exact aO ho F I hc
theorem Di{t b off:Nat}{v:Value}{E:List Value}{e:TypeId}(h:yR K o.op=some (t,b,off,v))(O:Bu w b E e)(W:Cp P t=some v.cells.toList.length)
 (J:v.cells.toList.all Value.oneCell'=true) (F:Nat.ble (off+v.cells.toList.length) E.length=true):
 Jv P N K o w (fun _ w'=>JF b w w'∧Bu w' b (E.take off++v.cells.toList++E.drop (off+v.cells.toList.length)) e):=by
 obtain⟨x,y,ho,U,I⟩:=XR h;exact UI ho U I O W J F
/-! ## Worlds, in fewer words -/
theorem Et{w a b:World}(h:Bl w a)(k:Bl a b):Bl w b∧a.heap.size<=b.heap.size:=⟨Bl.trans h k,k.size⟩
theorem JN{p:Nat->Prop}{w a b:World}(h:Cb p w a)(k:Bl a b):Cb p w b∧a.heap.size<=b.heap.size:=⟨Cb.ext h k,k.size⟩
theorem Kn.sub{K':KL}{a:Act}(h:Kn N K a)(e:K'.map (fun p=>kl K p.1)=K'.map (fun p=>some p.2)):Kn N K' a:=by
 refine h.weaken ?_
 induction K' with
 |nil=>trivial
 |cons p K' ih=>
  simp only [Gk,List.cons.injEq]at e
  exact⟨e.1,ih e.2⟩
theorem VA{α:Type}{x y:α}(h:some x=some y):x=y:=Ai h
theorem Ek{α:Type}{x:α}{p:Prop}(h:none=some x):p:=by cases h
theorem Wc{α:Type}{c:Operand}{x y:Code}{t:Bool}{A B:Option α}{r:α}{Q:Exit->Act->World->Prop}(hc:ES K c=some (.bool t))(E:(bif t then A else B)=some r)(I:A=some r->WC P N x Q K w)(F:B=some r->WC P N y Q K w):WC P N (.cond c x y) Q K w:=
 WC.cond hc (fun h=>I (Pi h E)) (fun h=>F (PV h E))
def Yw(K:KL):List ResultVar->Option (List Value)
 |[]=>some []
 | .tmp t::rs=>match kl K t with
  |some v=>match Yw K rs with
   |some vs=>some (v::vs)
   |none=>none
  |none=>none
 | .cell _ _::_=>none
theorem UX:∀{rs:List ResultVar} {vs:List Value},Yw K rs=some vs->Rr P K w rs vs
 |[],vs,h=>by obtain rfl:=Ai h;trivial
 | .tmp t::rs,vs,h=>by
  unfold Yw at h
  split at h
  ·rename_i v E
   split at h
   ·rename_i I F
    obtain rfl:=Ai h
    exact⟨E,UX F⟩
   ·cases h
  ·cases h
 | .cell _ _::_,vs,h=>by cases h
theorem Ne{fn:Func}{rs vs R}(F:fn.results=List.toArray rs)(ho:Yw K rs=some vs)(E:R (.returned (Hd vs)) w):NX N (bodyPost P fn R) .ret K w:=NX.end F (UX ho) E
theorem Nn{fn:Func}{rs vs R}(F:fn.results=List.toArray rs)(ho:Yw K rs=some vs)(E:R (.returned (Hd vs)) w):NX N (bodyPost P fn R) .normal K w:=NX.end_n F (UX ho) E
end
end Go.Eng
namespace Go.Eng
open Go Go.RowKit
theorem Eu{w a c:World}{b:Nat}(h:Bl w a)(hu:JF b a c)(E:w.heap.size<=b:=by omega):Bl w c∧c.heap.size=a.heap.size:=⟨Below.trans h (JF.below hu E),hu.size⟩
theorem Tm{p:Nat->Prop}{w a c:World}{b:Nat}(h:Cb p w a)(hu:JF b a c)(E:p b∨w.heap.size<=b):Cb p w c∧c.heap.size=a.heap.size:=⟨Cb.upd h hu E,hu.size⟩
/-! ## What keeps slices apart -/
abbrev Nb(v:Value)(b:Nat):Prop:=∀g,v.ownBlock=some g->g≠b
abbrev Ns(v:Value)(lo hi:Nat):Prop:=∀g,v.ownBlock=some g->g<lo∨hi<=g
abbrev No(v u:Value):Prop:=∀g q,v.ownBlock=some g->u.ownBlock=some q->g≠q
abbrev Bd(v:Value)(lo hi:Nat):Prop:=∀q,v.ownBlock=some q->lo<=q∧q<hi
section
variable {v v' u:Value} {b lo hi lo' hi':Nat} {w w':World}
theorem Nb.of(h:Bd v lo hi)(k:b<lo∨hi<=b:=by omega):Nb v b:=fun g E=>by have:=h g E;omega
theorem Ns.of(h:Bd v lo hi)(k:hi'<=lo∨hi<=lo':=by omega):Ns v lo' hi':=fun g E=>by have:=h g E;omega
theorem No.of(h:Bd v lo hi)(F:Bd u lo' hi')(k:hi<=lo'∨hi'<=lo:=by omega):No v u:=fun g q E I=>by have:=h g E;have:=F q I;omega
theorem No.symm(h:No v u):No u v:=fun g q E F e=>h q g F E e.symm
theorem Gb(h:Ev w w' v v')(k:Nb v b)(F:b<w.heap.size:=by omega):Nb v' b:=Ev.sepP (p:=fun g=>g≠b) h k (fun g E=>by omega)
theorem Gs(h:Ev w w' v v')(k:Ns v lo hi)(F:hi<=w.heap.size:=by omega):Ns v' lo hi:=Ev.sepP (p:=fun g=>g<lo∨hi<=g) h k (fun g E=>by omega)
theorem Gn(h:Ev w w' v v')(k:No v u)(I:Bd u lo hi)(J:hi<=w.heap.size:=by omega):No v' u:=fun g q F E=>
 Ev.sepP (p:=fun g=>∀q,u.ownBlock=some q->g≠q) h (fun g F q E=>k g q F E) (fun g F q E=>by have:=I q E;omega) g F q E
theorem Ge(h:Bl w w'){F:World}(E:Ev w' F v v')(k:Bd v lo hi)(hl:w.heap.size<=lo:=by omega):Bl w F∧w'.heap.size<=F.heap.size:=⟨Below.trans h (Ev.low E (fun g E=>by have:=k g E;omega) h.size),E.1.size⟩
theorem IY{α:Type}{c:FC α}{B:Nat}{S:Nat->Prop}{e:TypeId}{zs:List α}(h:Ev w w' v v')(ho:AS c w' B S e zs v')(k:Bd v lo hi)(hl:lo<=w.heap.size:=by omega)(hh:hi<=w'.heap.size:=by omega):Bd v' lo w'.heap.size:=Ev.bd h ho k hl hh
end
end Go.Eng
namespace Go.Eng
open Go Go.RowKit
theorem Ae.oh{α:Type}{c:FC α}{w w':World}{lo H:Nat}{xs:List α}{v:Value}(h:Ae c w (Iv lo H) xs v)(F:H<=w.heap.size)(E:Bl w w'):Ae c w' (Iv lo H) xs v:=h.old E F
theorem Ae.ph{α:Type}{c:FC α}{w w':World}{H:Nat}{xs:List α}{v:Value}(h:Ae c w (Iv 0 H) xs v)(F:H<=w.heap.size)(E:Bl w w'):Ae c w' (Iv 0 w'.heap.size) xs v:=(h.old E F).wide (Bj _) (BH F E.size)
end Go.Eng
namespace Go.Eng
open Go Go.RowKit
/-! ## Regions whose order is drawn, with guards -/
section
variable {P:Program} {N:Nat} {ops:Array Oper} {Q:Exit -> Act -> World -> Prop} {n:Nat} {K:KL} {w w0:World} {f:Nat} {listed:Array Bool} {p:Nat -> Prop}
theorem SO{o:Oper}{g:Gd}(h:Iy N ops K o=g)(E:g≠ .no):∀t,o.dst=some t->Nat.blt t N=true:=Ep.h (PG h E)
theorem HLy{o:Oper}{v:Value}(i:Nat)(Z:Gi ops n=true)(hi:ops[i]? =some o)(hc:(Nat.blt i n&&Region.free .any ops listed i&&(Region.ready .any ops listed).contains i)=true)(U:Iy N ops K o= .yes)
 (h:HX P N K o w0 v) (k:HL P N ops n (noPan Q) w0 f (listed.setIfInBounds i true) (DE K o.dst v) w):HL P N ops n (noPan Q) w0 (f+1) listed K w:=by
 intro F W a J
 obtain⟨hs,hn,ht⟩:=Gi.spec Z
 simp only [AG]at hc
 have E:i<n:=by have Y:=hc.1.1;simp [Nat.blt]at Y;omega
 have O:i∈Region.ready .any ops listed:=by simpa using hc.2
 refine FP.first hi E hn (GP hs) ht (fun c a w h=>h.elim) f listed a w F (Region.free_spec hi hc.1.2) O ?_ W (k (F.set O E) W _ (J.put (SO U (by simp))))
 exact .inl ⟨JU U J,fun w' I=>h a J w' I⟩
theorem AcJ{o:Oper}{Ψ:Value->Prop}(i:Nat)(J:Gi ops n=true)(hi:ops[i]? =some o)(hc:(Nat.blt i n&&Region.free .any ops listed i&&(Region.ready .any ops listed).contains i)=true)(F:Iy N ops K o= .yes)
 (h:YE P N K o w0 Ψ) (k:∀v,Ψ v->HL P N ops n (noPan Q) w0 f (listed.setIfInBounds i true) (DE K o.dst v) w):HL P N ops n (noPan Q) w0 (f+1) listed K w:=by
 obtain⟨v,E,I⟩:=h;exact HLy i J hi hc F E (k v I)
theorem HLk{o:Oper}(i:Nat)(Y:Gi ops n=true)(hi:ops[i]? =some o)(hc:(Nat.blt i n&&Region.free .any ops listed i&&(Region.ready .any ops listed).contains i)=true)(O:Iy N ops K o= .skip)
 (k:HL P N ops n (noPan Q) w0 f (listed.setIfInBounds i true) (DE K o.dst undef) w):HL P N ops n (noPan Q) w0 (f+1) listed K w:=by
 intro F U a J
 obtain⟨hs,hn,Z⟩:=Gi.spec Y
 simp only [AG]at hc
 have E:i<n:=by have W:=hc.1.1;simp [Nat.blt]at W;omega
 have I:i∈Region.ready .any ops listed:=by simpa using hc.2
 refine FP.first hi E hn (GP hs) Z (fun c a w h=>h.elim) f listed a w F (Region.free_spec hi hc.1.2) I ?_ U (k (F.set I E) U _ (J.put (SO O (by simp))))
 exact .inr ⟨Sh O J,rfl⟩
theorem HLe{o:Oper}{R:Value->World->Prop}(i:Nat)(hi:ops[i]? =some o)(J:Nat.blt i n=true)(F:Region.ready .any ops listed=[i])(I:Iy N ops K o= .yes)
 (h:Jv P N K o w R) (k:∀v w',R v w'->Bl w0 w'∧HL P N ops n (noPan Q) w0 f (listed.setIfInBounds i true) (DE K o.dst v) w'):HL P N ops n (noPan Q) w0 (f+1) listed K w:=by
 intro U hx a Y
 have E:i<n:=by have O:=J;simp [Nat.blt]at O;omega
 have Z:i∈Region.ready .any ops listed:=by rw [F];simp
 refine⟨fun I=>(by rw [I]at F;cases F),fun j hj=>?_⟩
 rw [F]at hj
 have W:j=i:=by simpa using hj
 subst W
 unfold wpOp
 simp only [hi]
 rw [BE (JU I Y)]
 refine .inl (h a Y _ _ fun u w' hR=>?_)
 obtain⟨h1,O⟩:=k u w' hR
 exact⟨fun _=>h1,O (U.set Z E) h1 _ (Y.put (SO I (by simp)))⟩
theorem HBe{o:Oper}{R:Value->World->Prop}(i:Nat)(hi:ops[i]? =some o)(F:Nat.blt i n=true)(hr:(Region.ready .any ops listed).contains i=true)(Y:Iy N ops K o= .yes)
 (h:Jv P N K o w R) (k:∀v w',R v w'->Bl w0 w'∧HL P N ops n (noPan Q) w0 f (listed.setIfInBounds i true) (DE K o.dst v) w'):HB P N ops n (noPan Q) w0 f listed K w i:=by
 intro J hx a O
 have E:i<n:=by have I:=F;simp [Nat.blt]at I;omega
 have U:i∈Region.ready .any ops listed:=by simpa using hr
 unfold wpOp
 simp only [hi]
 rw [BE (JU Y O)]
 refine .inl (h a O _ _ fun u w' Z=>?_)
 obtain⟨W,I⟩:=k u w' Z
 exact⟨fun _=>W,I (J.set U E) W _ (O.put (SO Y (by simp)))⟩
theorem HKc(t:Nat){b F:Bool}(e:b=F)(h:kl K t=some (.bool b))(k:HL P N ops n Q w0 f listed ((t,.bool F)::K) w):HL P N ops n Q w0 f listed K w:=fun E J a I=>k E J a (I.know h (by rw [e]))
theorem WC.heldD{id:Nat}{l:List Oper}(n:Nat)(hm:P.follows .mixedOrders=true)(E:Gi l.toArray n=true)
 (h:∀w',Bl w w'->Gi l.toArray n=true->HL P N l.toArray n (noPan Q) w' l.length (Array.replicate l.length false) K w'):WC P N (.region id l.toArray true) Q K w:=WC.held n hm fun w' F=>h w' F E
def rD(ops:Array Oper)(n:Nat):List Nat->Array Bool->Bool
 |[],_=>true
 |i::is,listed=>Nat.blt i n&&Region.free .any ops listed i&&(Region.ready .any ops listed).contains i&&rD ops n is (listed.setIfInBounds i true)
end
section
variable (P:Program) (N:Nat) (ops:Array Oper) (n:Nat) (Q:Exit -> Act -> World -> Prop) (w0:World)
def eU:List Nat->Nat->Array Bool->KL->World->Prop
 |[]=>fun f listed K w=>HL P N ops n (noPan Q) w0 f listed K w
 |i::is=>fun f listed K w=>match f with
  |0=>False
  |f+1=>match ops[i]? with
   |none=>False
   |some o=>match Iy N ops K o with
    | .yes=>match yq K o.op with
     |some v=>eU is f (listed.setIfInBounds i true) (DE K o.dst v) w
     |none=>False
    | .skip=>eU is f (listed.setIfInBounds i true) (DE K o.dst undef) w
    | .no=>False
end
section
variable {P:Program} {N:Nat} {ops:Array Oper} {Q:Exit -> Act -> World -> Prop} {n:Nat} {w w0:World}
theorem Hr(F:Gi ops n=true):∀(is:List Nat) {f:Nat} {listed:Array Bool} {K:KL},rD ops n is listed=true->eU P N ops n Q w0 is f listed K w->HL P N ops n (noPan Q) w0 f listed K w
 |[],_,_,_,_,h=>h
 |i::is,0,listed,K,_,h=>h.elim
 |i::is,f+1,listed,K,hc,h=>by
  simp only [rD,AG]at hc
  have E:(Nat.blt i n&&Region.free .any ops listed i&&(Region.ready .any ops listed).contains i)=true:=by simp only [AG];exact hc.1
  simp only [eU]at h
  split at h
  ·exact h.elim
  ·rename_i o hi
   split at h
   ·rename_i I
    split at h
    ·rename_i v J;exact HLy i F hi E I (LV J) (Hr F is hc.2 h)
    ·exact h.elim
   ·rename_i I;exact HLk i F hi E I (Hr F is hc.2 h)
   ·exact h.elim
end
end Go.Eng
namespace Go.Eng
open Go Go.RowKit
/-! ## Structs of plain fields, compared -/
def mM(u v:Value):Option Bool:=match u with
 | .int k a=>match v with
  | .int k' b=>bif decide (k=k')then some (a==b)else none
  |_=>none
 | .bool a=>match v with
  | .bool b=>some (a==b)
  |_=>none
 | .string a=>match v with
  | .string b=>some (a.toList==b.toList)
  |_=>none
 |_=>none
def Tq:List Value->List Value->Option Bool
 |[],[]=>some true
 |u::us,v::vs=>match us with
  |[]=>match vs with
   |[]=>mM u v
   |_=>none
  |_::_=>match mM u v with
   |some r=>match Tq us vs with
    |some q=>some (r&&q)
    |none=>none
   |none=>none
 |_,_=>none
def yY(P:Program):List Field->Nat->Bool
 |[],_=>true
 |f::fs,i=>f.name != "_" &&Nat.beq f.offset i&&(match P.underlying f.type with
  |some (.int _)=>true
  |some .bool=>true
  |some .string=>true
  |_=>false)&&yY P fs (i+1)
def jY(P:Program)(t:Nat)(n:Nat):Bool:=match P.underlying t with
 |some (.struct fs)=>yY P fs.toList 0&&Nat.beq fs.size n&& !P.stoodInHeld t&& !P.eqGuardType P.depth t
 |_=>false
section
variable {P:Program} {N:Nat} {K:KL} {o:Oper} {w:World}
theorem jV{d t:Nat}{u v:Value}{r:Bool}(h:mM u v=some r)(O:(match P.underlying t with
 |some (.int _)=>true
 |some .bool=>true
 |some .string=>true
 |_=>false)=true) (I:∀k,P.underlying t=some (.int k)->∃E a,u= .int E a) (J:P.underlying t=some .bool->∃a,u= .bool a) (F:P.underlying t=some .string->∃a,u= .string a):
 (Op.equalIn (d+1) t u v).run P w= .ok r w:=by
 split at O
 ·rename_i k hu
  obtain⟨E,a,rfl⟩:=I k hu
  unfold mM at h
  cases v<;>simp only [reduceCtorEq]at h
  rename_i U b
  by_cases hk:E=U
  ·subst hk
   rw [Aw rfl,cond_true]at h
   obtain rfl:=Ai h
   exact run_equalIn_int w d t E k a b hu
  ·rw [Av hk]at h;cases h
 ·rename_i hu
  obtain⟨a,rfl⟩:=J hu
  unfold mM at h
  cases v<;>simp only [reduceCtorEq]at h
  obtain rfl:=Ai h
  exact run_equalIn_bool' w d t _ _ hu
 ·rename_i hu
  obtain⟨a,rfl⟩:=F hu
  unfold mM at h
  cases v<;>simp only [reduceCtorEq]at h
  obtain rfl:=Ai h
  exact run_equalIn_string w d t _ _ hu
 ·cases O
def sJ(P:Program):List Field->List Value->Bool
 |[],[]=>true
 |f::fs,u::us=>(match P.underlying f.type with
  |some (.int _)=>match u with
   | .int _ _=>true
   |_=>false
  |some .bool=>match u with
   | .bool _=>true
   |_=>false
  |some .string=>match u with
   | .string _=>true
   |_=>false
  |_=>false)&&sJ P fs us
 |_,_=>false
theorem NM{d:Nat}{xs ys:Array Value}:∀(fs:List Field) (i:Nat) (us vs:List Value) (r:Bool),yY P fs i=true->sJ P fs us=true->xs.toList.drop i=us->ys.toList.drop i=vs->Tq us vs=some r->(Op.eqFields (d+1) xs ys fs).run P w= .ok r w
 |[],i,us,vs,r,_,I,_,_,h5=>by
  cases us with
  |nil=>
   cases vs with
   |nil=>simp [Tq]at h5;subst h5;simp [Op.eqFields]
   |cons _ _=>simp [Tq]at h5
  |cons _ _=>simp [sJ]at I
 |f::fs,i,us,vs,r,J,I,h3,h4,h5=>by
  cases us with
  |nil=>simp [sJ]at I
  |cons u us=>
   cases vs with
   |nil=>cases us<;>simp [Tq]at h5
   |cons v vs=>
    simp only [yY,AG,EI,ne_eq]at J
    obtain⟨⟨⟨hn,ho⟩,Z⟩,J⟩:=J
    have ho:f.offset=i:=Bh ho
    simp only [sJ,AG]at I
    obtain⟨hc,I⟩:=I
    have W:xs[f.offset]? =some u:=by
     rw [ho,←Array.getElem?_toList]
     have:=congrArg (fun l:List Value=>l[0]?) h3
     simpa using this
    have Y:ys[f.offset]? =some v:=by
     rw [ho,←Array.getElem?_toList]
     have:=congrArg (fun l:List Value=>l[0]?) h4
     simpa using this
    have ha:Ei P f.type=some false:=by
     unfold Ei
     split at Z<;>first|(rename_i hu;rw [hu])|cases Z
    have e3:xs.toList.drop (i+1)=us:=by
     rw [←List.drop_drop,h3];rfl
    have e4:ys.toList.drop (i+1)=vs:=by
     rw [←List.drop_drop,h4];rfl
    have O:∀F,mM u v=some F->(Op.equalIn (d+1) f.type u v).run P w= .ok F w:=by
     intro F E
     refine jV E Z ?_ ?_ ?_
     ·intro k hu;rw [hu]at hc;cases u<;>simp at hc;exact⟨_,_,rfl⟩
     ·intro hu;rw [hu]at hc;cases u<;>simp at hc;exact⟨_,rfl⟩
     ·intro hu;rw [hu]at hc;cases u<;>simp at hc;exact⟨_,rfl⟩
    have step:∀F q,mM u v=some F->(Op.eqFields (d+1) xs ys fs).run P w= .ok q w->(Op.eqFields (d+1) xs ys (f::fs)).run P w= .ok (F&&q) w:=by
     intro F q E U
     have hk:=O F E
     simp only [Op.eqFields]
     rw [BE hn]
     simp only [DP,part,KR ha,GG,Bool.false_eq_true,if_false,W,Y,Sem.run_pure,hk]
     cases F
     ·simp
     ·simp [U]
    cases us with
    |nil=>
     cases vs with
     |nil=>
      simp only [Tq]at h5
      have:=step r true h5 (NM fs (i+1) [] [] true J I e3 e4 rfl)
      simpa using this
     |cons _ _=>simp [Tq]at h5
    |cons u2 a0=>
     simp only [Tq]at h5
     split at h5
     ·rename_i F E
      split at h5
      ·rename_i q U
       obtain rfl:=Ai h5
       exact step F q E (NM fs (i+1) _ _ q J I e3 e4 U)
      ·cases h5
     ·cases h5
def iX(P:Program)(t:Nat)(us:List Value):Bool:=match P.underlying t with
 |some (.struct fs)=>sJ P fs.toList us
 |_=>false
theorem lB{t n:Nat}{us vs:List Value}{r:Bool}(E:jY P t n=true)(F:iX P t us=true)(h:Tq us vs=some r):
 (Op.equalIn 10000 t (.agg us.toArray) (.agg vs.toArray)).run P w= .ok r w∧P.eqGuardType P.depth t=false:=by
 unfold jY at E
 unfold iX at F
 split at E
 ·rename_i fs hu
  rw [hu]at F
  simp only [AG,CB]at E
  obtain⟨⟨⟨O,W⟩,U⟩,J⟩:=E
  have I:P.fieldsOf t=fs:=by unfold Program.fieldsOf;rw [hu]
  refine⟨?_,J⟩
  rw [show(10000:Nat)=9998+1+1 from rfl,run_equalIn_struct w _ t _ _ (by rw [I];exact hu) U,I]
  exact NM fs.toList 0 us vs r O F (by simp) (by simp) h
 ·cases E
theorem pT{t x y u n us vs r}(ho:o.op= .binOp .neq t x y u)(Z:ES K x=some (.agg (List.toArray us)))(I:ES K y=some (.agg (List.toArray vs)))(W:jY P t n=true)(F:iX P t us=true)(h:Tq us vs=some r):HX P N K o w (.bool (!r)):=by
 intro a E w' _
 obtain⟨U,J⟩:=lB (w:=w') W F h
 have Y:=run_eqGuard_agg (P:=P) w' .neq t x y us.toArray vs.toArray J
 have O:(binOp .neq t (.agg us.toArray) (.agg vs.toArray)).run P w'= .ok (.bool (!r)) w':=by rw [run_neq_struct,U];rfl
 simp only [execOp,ho,E.ev Z,E.ev I,DP,Y,GG,O,Sem.run_pure]
end
end Go.Eng
namespace Go.Eng
open Go Go.RowKit
/-! ## Slices of slices of the call's own, each apart from the others -/
theorem AS.slp{α:Type}{c:FC α}{w:World}{B:Nat}{S S':Nat->Prop}{e:TypeId}{xs:List α}{v:Value}[Fy c](h:AS c w B S e xs v)(hb:∀g,v.ownBlock=some g->S' g):Ae c w S' xs v:=by
 obtain⟨cs,I,Z⟩:=h
 have Y:=I
 obtain⟨hl,⟨rfl,hn⟩|⟨g,F,J,rfl,_,U,W,O,h7,h8⟩⟩:=Y
 ·have:xs=[]:=CN hn
  subst this;exact Ae.nil _ _ _
 ·refine⟨some ⟨g,0,none⟩,F,rfl,⟨W,fun h=>by cases h⟩,by simpa [maxLen] using O,fun hpos=>⟨g,0,rfl,hb g rfl,fun i x hx=>⟨_,Fy.any (Z i x hx),fun j u hu=>?_⟩⟩⟩
  have E:j<c.n:=by
   have:=(AR.1 hu).1
   simp [CG]at this;omega
  rw [DM E]at hu
  have:=I.cells (g:=g) rfl _ _ hu
  rw [Fa]at this
  rw [show 0+i*c.n+j=0+(i*c.n+j) by omega];exact⟨this,by simp [World.frozen?,U]⟩
def own2{α:Type}(c:FC α)(w:World)(B hi:Nat)(e1 e2:TypeId)(xss:List (List α))(v:Value)(vs:List Value):Prop:=
 w.ownsRow B e1 1 v xss.length vs∧(∀(i:Nat) (xs:List α) (u:Value),xss[i]? =some xs->vs[i]? =some u->AS c w B (Iv 0 0) e2 xs u∧Bd u B hi∧No v u)∧(∀(i j:Nat) (u u':Value),i≠j->vs[i]? =some u->vs[j]? =some u'->No u u')
def bE{α:Type}(c:FC α)(w:World)(B hi:Nat)(e1 e2:TypeId)(xss:List (List α))(v:Value)(vs:List Value)(k:Nat)(u0:Value):Prop:=
 w.ownsRow B e1 1 v xss.length vs∧(∀(i:Nat) (xs:List α) (u:Value),i≠k->xss[i]? =some xs->vs[i]? =some u->AS c w B (Iv 0 0) e2 xs u∧Bd u B hi∧No v u∧No u0 u)∧(∀(i j:Nat) (u u':Value),i≠k->j≠k->i≠j->vs[i]? =some u->vs[j]? =some u'->No u u')∧No v u0∧Bd u0 B hi
theorem ownsRow.keep{w w':World}{B n:Nat}{e:TypeId}{v:Value}{m:Nat}{cs:List Value}(h:w.ownsRow B e n v m cs)(W:∀g,v.ownBlock=some g->w'.heap[g]? =w.heap[g]?):w'.ownsRow B e n v m cs:=by
 obtain⟨O,F⟩:=h
 refine⟨O,?_⟩
 rcases F with F|⟨g,I,E,rfl,U,J,rest⟩
 ·exact .inl F
 ·exact .inr ⟨g,I,E,rfl,U,(W g rfl).trans J,rest⟩
section
variable {α:Type} {c:FC α} [Fy c] {w w':World} {B hi:Nat} {e1 e2:TypeId} {xss:List (List α)} {v:Value} {vs:List Value}
theorem own2.keep(h:own2 c w B hi e1 e2 xss v vs)(F:∀g,v.ownBlock=some g->w'.heap[g]? =w.heap[g]?)(I:∀k,B<=k->k<hi->w'.heap[k]? =w.heap[k]?):own2 c w' B hi e1 e2 xss v vs:=by
 obtain⟨a,b,d⟩:=h
 refine⟨ownsRow.keep a F,fun i xs u J hu=>?_,d⟩
 obtain⟨p,q,r⟩:=b i xs u J hu
 exact⟨p.keep (fun g E=>I g (q g E).1 (q g E).2) (fun _ h=>h) (fun k h=>absurd h.2 (AX k)),q,r⟩
theorem own2.blk(h:own2 c w B hi e1 e2 xss v vs):Bd v B w.heap.size:=h.1.lt
theorem own2.ext(h:own2 c w B hi e1 e2 xss v vs)(E:Bl w w')(I:hi<=w.heap.size):own2 c w' B hi e1 e2 xss v vs:=
 h.keep (fun g F=>E.block g (h.blk g F).2) (fun k _ h=>E.block k (by omega))
theorem own2.upd{b:Nat}(h:own2 c w B hi e1 e2 xss v vs)(hu:JF b w w')(E:Nb v b)(O:b<B∨hi<=b:=by omega):own2 c w' B hi e1 e2 xss v vs:=
 h.keep (fun g F=>hu.block g (E g F)) (fun k J I=>hu.block k (by omega))
theorem own2.wide{hi':Nat}(h:own2 c w B hi e1 e2 xss v vs)(I:hi<=hi':=by omega):own2 c w B hi' e1 e2 xss v vs:=by
 obtain⟨a,b,d⟩:=h
 refine⟨a,fun i xs u F hu=>?_,d⟩
 obtain⟨p,q,r⟩:=b i xs u F hu
 exact⟨p,fun g E=>by have:=q g E;omega,r⟩
theorem own2.but{p:Nat->Prop}(h:own2 c w B hi e1 e2 xss v vs)(F:Cb p w w')(E:∀k,p k->∀g,v.ownBlock=some g->k≠g)(J:hi<=w.heap.size)(O:∀k,p k->k<B∨hi<=k):own2 c w' B hi e1 e2 xss v vs:=
 h.keep (fun g I=>F.block g (h.blk g I).2 (fun e=>E g e g I rfl)) (fun k W U=>F.block k (by omega) (fun e=>by have:=O k e;omega))
theorem Ev.own2{t O:Value}(I:Ev w w' t O)(h:own2 c w B hi e1 e2 xss v vs)(E:No t v)(J:hi<=w.heap.size)(U:∀g,t.ownBlock=some g->g<B∨hi<=g):own2 c w' B hi e1 e2 xss v vs:=
 h.keep (fun g F=>I.1.block g (h.blk g F).2 (fun e=>E g g e.symm F rfl)) (fun k Y W=>I.1.block k (by omega) (fun e=>by have:=U k e.symm;omega))
theorem lI{cs:List Value}{i:Nat}{u:Value}(h:cs[i]? =some u):CG cs 1 i=[u]:=by
 apply Cl
 intro q
 by_cases hq:q<1
 ·obtain rfl:q=0:=by omega
  rw [DM hq];simpa using h
 ·rw [BM (by simp [CG];omega),BM (by simp;omega)]
theorem own2.r(h:own2 c w B hi e1 e2 xss v vs):AS (HU c) w B (SX B hi v) e1 xss v:=by
 obtain⟨a,b,d⟩:=h
 refine⟨vs,a,fun i x F=>?_⟩
 have hi':i<vs.length:=by
  have:=(AR.1 F).1
  rw [a.1];omega
 obtain⟨p,q,r⟩:=b i x _ F (AK hi')
 have e:CG vs (HU c).n i=[vs[i]]:=lI (AK hi')
 rw [e]
 exact⟨_,rfl,p.slp fun g E=>⟨(q g E).1,(q g E).2,fun e=>r g g e E rfl⟩⟩
theorem own2.nil:own2 c w B hi e1 e2 ([]:List (List α)) (.slice none 0 0) []:=⟨World.ownsRow_nil w B e1 1,fun i xs u h=>by simp at h,fun i j u E _ h=>by simp at h⟩
theorem own2.sub{m:Int}{xs:List α}{u:Value}(h:own2 c w B hi e1 e2 xss v vs)(E:AU xss m=some xs)(hu:vs[m.toNat]? =some u):AS c w B (Iv 0 0) e2 xs u∧Bd u B hi∧No v u:=h.2.1 _ _ _ (Gf E).2.2 hu
theorem own2.at{m:Int}{xs:List α}{g:Nat}{us:List Value}(h:own2 c w B hi e1 e2 xss v vs)(O:AU xss m=some xs)(U:v.ownBlock=some g)(hl:us.length=1)(F:BK w g (0+m.toNat*(HU c).n) us):∃u,us=[u]∧vs[m.toNat]? =some u:=by
 obtain⟨u,rfl⟩:=Fp.1 hl
 refine⟨u,rfl,?_⟩
 have E:m.toNat<vs.length:=by
  have:=(AR.1 (Gf O).2.2).1
  rw [h.1.1];omega
 have J:=h.1.cells U m.toNat _ (AK E)
 have I:=(F 0 u rfl).1
 rw [Fa]at J
 have e:0+m.toNat*(HU c).n+0=0+m.toNat:=by show 0+m.toNat*1+0=0+m.toNat;omega
 rw [e,J]at I
 rw [AK E];exact I
theorem own2.grew{m:Nat}{u u':Value}(h:own2 c w B hi e1 e2 xss v vs)(hu:vs[m]? =some u)(Z:Bd u B hi)(J:No v u)(I:Ev w w' u u')(b1:hi<=w.heap.size)(hB:B<=w.heap.size)(Y:∀g,u'.ownBlock=some g->g<w'.heap.size):bE c w' B w'.heap.size e1 e2 xss v vs m u':=by
 obtain⟨a,b,d⟩:=h
 have hsz:=I.1.size
 have a0:∀g,v.ownBlock=some g->w'.heap[g]? =w.heap[g]?:=fun g hv=>I.1.block g (a.lt g hv).2 (fun e=>J g g hv e.symm rfl)
 refine⟨ownsRow.keep a a0,fun i xs t hi' hx U=>?_,fun i j t t' _ _ b0 U W=>d i j t t' b0 U W,?_,?_⟩
 ·obtain⟨p,q,r⟩:=b i xs t hx U
  have hn:No u t:=d m i u t (fun e=>hi' e.symm) hu U
  refine⟨p.keep (fun g E=>I.1.block g (by have:=q g E;omega) (fun e=>hn g g e.symm E rfl)) (fun _ h=>h) (fun k h=>absurd h.2 (AX k)),fun g E=>by have:=q g E;omega,r,fun g O E F=>?_⟩
  rcases I.2 g E with h1|h1
  ·exact hn g O h1 F
  ·have:=q O F;omega
 ·intro g O E F
  rcases I.2 O F with h1|h1
  ·exact J g O E h1
  ·have:=a.lt g E;omega
 ·intro g E
  have:=Y g E
  rcases I.2 g E with h1|h1
  ·have:=Z g h1;omega
  ·omega
end
section
variable {P:Program} {N:Nat} {α:Type} {c:FC α} [Fy c] {w:World} {B hi:Nat} {e1 e2:TypeId} {xss:List (List α)} {v:Value} {vs:List Value} {o:Oper} {K:KL}
theorem AbL{t g m off:Nat}{u:Value}{zs:List α}(h:yR K o.op=some (t,g,off,u))(b1:off=0+m*(HU c).n)(hg:v.ownBlock=some g)(hn:Cp P t=some 1)(hh:bE c w B hi e1 e2 xss v vs m u)(ho:AS c w B (Iv 0 0) e2 zs u)(hm:m<xss.length):
 Jv P N K o w (fun _ w'=>JF g w w'∧own2 c w' B hi e1 e2 (xss.set m zs) v (vs.set m u)):=by
 obtain⟨x,y,b7,hx,hy⟩:=XR h
 obtain⟨a,b,d,hv,b4⟩:=hh
 have b5:u.cells= #[u]:=ho.cells
 have b6:u.oneCell'=true:=ho.one
 have a':=a
 obtain⟨hl,⟨rfl,c1⟩|⟨Z,b8,E,rfl,hb,b0,h5,h6,h7,h8⟩⟩:=a'
 ·omega
 simp [Value.ownBlock]at hg
 subst hg
 obtain⟨ti,hi1,hsz⟩:=BL.1 hn
 have J:off=m:=by rw [b1];show 0+m*1=m;omega
 subst J
 have a0:off<E.size:=by rw [h7];omega
 have I:=run_storeCells_at P Z off e1 [u] 0 E w b0 (by simp;omega) (by simpa using b6)
 simp only [HA]at I
 intro ac hK Kt Q hk
 have hr:(execOp ac.eval o).run P w= .ok .skip (w.setRow Z (E.toList.set off u).toArray):=by
  have e:List.take off E.toList++[u]++List.drop (off+1) E.toList=E.toList.set off u:=by
   rw [List.set_eq_take_append_cons_drop,BE (by simpa using a0)];simp
  simp [execOp,b7,hK.ev hx,hK.ev hy,Instr.storeAt,Instr.sureAddr,storeVar,DP,sizeOf,typeInfo,hi1,hsz,b5]at I ⊢
  rw [I]
  simp at e
  simp [e]
 unfold Oper.wp
 rw [hr]
 have hU:=JF.setRow w Z (E.toList.set off u).toArray
 refine hk _ _ ⟨hU,?_,?_,?_⟩
 ·refine⟨by rw [Er,Er];exact hl,.inr ⟨Z,b8,_,by simp,hb,setRow_heap w Z E _ e1 _ b0,by simpa using h5,h6,by simpa using h7,?_⟩⟩
  rw [Er]
  simp only [List.toList_toArray,Nat.mul_one]
  rw [List.take_set]
  congr 1
  simpa using h8
 ·intro i xs t b3 O
  rcases Un b3 with ⟨rfl,rfl⟩|⟨U,b2⟩
  ·have:t=u:=by
    rw [List.getElem?_set_self (by rw [hl];omega)]at O
    exact(Ai O).symm
   subst this
   refine⟨ho.keep (fun q hq=>setRow_other _ _ _ _ (fun e=>?_)) (fun _ h=>h) (fun k h=>absurd h.2 (AX k)),b4,hv⟩
   subst e
   exact hv q q rfl hq rfl
  ·rw [List.getElem?_set_ne U]at O
   obtain⟨p,q,r,s⟩:=b i xs t (fun e=>U e.symm) b2 O
   exact⟨p.keep (fun g2 b9=>setRow_other _ _ _ _ (fun e=>by subst e;exact r g2 g2 rfl b9 rfl)) (fun _ h=>h) (fun k h=>absurd h.2 (AX k)),q,r⟩
 ·intro i j t t' W O c0
  have get:∀i t,(vs.set off u)[i]? =some t->(i=off∧t=u)∨(i≠off∧vs[i]? =some t):=fun i t h=>by
   rcases Un h with ⟨e,e2⟩|⟨e,e2⟩
   ·exact .inl ⟨e.symm,e2⟩
   ·exact .inr ⟨fun q=>e q.symm,e2⟩
  have hx:∀i t,i≠off->vs[i]? =some t->∃xs,xss[i]? =some xs:=fun i t _ h=>by
   have:=(AR.1 h).1
   exact⟨_,AK (by rw [hl]at this;omega)⟩
  rcases get i t O with ⟨e,rfl⟩|⟨e,h1⟩<;>rcases get j t' c0 with ⟨Y,rfl⟩|⟨Y,h2⟩
  ·exact absurd (e.trans Y.symm) W
  ·obtain⟨xs,F⟩:=hx j t' Y h2
   exact(b j xs t' Y F h2).2.2.2
  ·obtain⟨xs,F⟩:=hx i t e h1
   exact(b i xs t e F h1).2.2.2.symm
  ·exact d i j t t' e Y W h1 h2
theorem Yn{ei:TypeId}{t l c2 by' m m' k kd kd'}(ho:o.op= .makeSlice t l c2)(hu:P.underlying t=some (.slice e1))(hi:Ft P e1=some ([.slice none 0 0],1,by'))(hl:ES K l=some (.int kd m))(hc:ES K c2=some (.int kd' m'))(hmm:m'=m)
 (hk:QS m by'=some k):
 Jv P N K o w (fun u w'=>∃g,u= .slice (some ⟨g,0,none⟩) k k∧g=w.heap.size∧w'.heap.size=w.heap.size+1∧Bl w w'∧own2 c w' g (g+1) e1 ei (List.replicate k []) u (List.replicate k (.slice none 0 0))):=by
 subst hmm
 unfold Ft at hi
 obtain⟨i,hi1,hi2⟩:=Dp.1 hi
 obtain⟨U,a0,I⟩:=BL.1 hi2
 simp only [EE]at I
 obtain⟨e3,e4,e5⟩:=I
 unfold QS at hk
 split at hk
 ·rename_i hm
  injection hk with hk
  have hr:=run_make (P:=P) w t e1 i U hu hi1 a0 kd kd' m' m' hm.1 (Gt _) (by rw [e5,Int.mul_comm];exact hm.2.1) hm.2.2
  intro a hK Kt Q Z
  have W:(execOp a.eval o).run P w= .ok (.value (.slice (some ⟨w.heap.size,0,none⟩) m'.toNat m'.toNat)) (w.alloc (.cells (madeCells U.cells (m'.toNat*i.size)) e1)):=by
   simp [execOp,ho,hK.ev hl,hK.ev hc,hr]
  unfold Oper.wp
  rw [W]
  have b0:U.cells= #[.slice none 0 0]:=by rw [←Array.toList_inj,e3]
  have J:(madeCells U.cells (m'.toNat*i.size)).toList=List.replicate k (.slice none 0 0):=by
   rw [b0,e4,hk,Nat.mul_one]
   apply List.ext_getElem
   ·simp [HH]
   ·intro j h1 h2
    simp [madeCells,Nat.mod_one]
  refine Z _ _ ⟨w.heap.size,by rw [hk],rfl,by simp,Bl.alloc _ _,⟨by simp,.inr ⟨w.heap.size,k,_,by rw [GB,hk],Bj _,heap_alloc_new w _,by simp,by simp only [maxLen];omega,?_,?_⟩⟩,?_,?_⟩
  ·rw [←GX,J];simp
  ·rw [J];simp
  ·intro i xs u O E
   have Y:xs=[]:=by
    rw [Em]at O;split at O
    ·exact(Ai O).symm
    ·cases O
   have F:u= .slice none 0 0:=by
    rw [Em]at E;split at E
    ·exact(Ai E).symm
    ·cases E
   subst Y F
   exact⟨AS.nil _ _ _ _ _,(fun q h=>by cases h),(fun g q _ h=>by cases h)⟩
  ·intro i j u u' _ E _ g q hg
   have F:u= .slice none 0 0:=by
    rw [Em]at E;split at E
    ·exact(Ai E).symm
    ·cases E
   subst F;cases hg
 ·cases hk
end
end Go.Eng
namespace Go.Eng
open Go Go.RowKit
theorem own2.at1{α:Type}{c:FC α}[Fy c]{w:World}{B hi:Nat}{e1 e2:TypeId}{xss:List (List α)}{v:Value}{vs:List Value}{m:Int}{xs:List α}{g:Nat}{u:Value}(h:own2 c w B hi e1 e2 xss v vs)(J:AU xss m=some xs)(O:v.ownBlock=some g)
 (E:BK w g (0+m.toNat*(HU c).n) [u]):vs[m.toNat]? =some u:=by
 obtain⟨U,F,I⟩:=h.at J O rfl E
 simp at F;rw [F];exact I
theorem Zy{α:Type}{xs:List α}{m:Int}{y:α}(h:AU xs m=some y):m.toNat<xs.length:=by
 obtain⟨F,E,_⟩:=Gf h;omega
end Go.Eng
namespace Go.Eng
open Go Go.RowKit
theorem yi2{P:Program}{N:Nat}{K:KL}{o:Oper}{α:Type}{c:FC α}{w w0:World}{B hi:Nat}{e1 e2:TypeId}{xss:List (List α)}{v:Value}{vs:List Value}{n:Nat}{U:Value}{xs:List α}{t:Nat}{k:IntKind}{m:Int}(h:YY K o.op=some (t,v,k,m))(hu:P.underlying t=some (.slice e1))(hc:Cp P e1=some 1)(I:bE c w B hi e1 e2 xss v vs n U)(W:AU xss m=some xs):
 YE P N K o w0 (fun u=>∃g,u= .pointer (some ⟨g,0+m.toNat*(HU c).n,none⟩)∧v.ownBlock=some g):=by
 obtain⟨x,i,ho,Y,hi'⟩:=XA h
 obtain⟨J,F,Z⟩:=Gf W
 obtain⟨⟨hl,⟨rfl,hn⟩|⟨g,O,E,rfl,_⟩⟩,_⟩:=I
 ·omega
 ·exact⟨_,IR (sz:=(HU c).n) ho hu hc Y hi' J F,g,rfl,rfl⟩
end Go.Eng
namespace Go.Eng
/-! ## Pointers that may be nil -/
def Tb{α β:Type}(o:Option α)(a:β)(f:α->β):β:=match o with
 |none=>a
 |some x=>f x
theorem mA{α β:Type}{o:Option α}{A:Option β}{f:α->Option β}{r:β}(h:o=none)(E:Tb o A f=some r):A=some r:=by subst h;exact E
theorem mW{α β:Type}{o:Option α}{x:α}{A:Option β}{f:α->Option β}{r:β}(h:o=some x)(E:Tb o A f=some r):f x=some r:=by subst h;exact E
def iG{α:Type}(o:Option α)(p:Prop)(f:α->Prop):Prop:=match o with
 |none=>p
 |some x=>f x
theorem nH{α:Type}{o:Option α}{p:Prop}{f:α->Prop}(h:o=none)(E:iG o p f):p:=by subst h;exact E
theorem nD{α:Type}{o:Option α}{x:α}{p:Prop}{f:α->Prop}(h:o=some x)(E:iG o p f):f x:=by subst h;exact E
end Go.Eng
namespace Go.Eng
theorem Wg{B hi:Nat}{v:Go.Value}{Q:Nat->Prop}(h:∀k,SX B hi v k->Q k):∀k,SX B hi v k->Q k:=h
end Go.Eng
namespace Go.Eng
open Go Go.RowKit
/-! ## Slices of which nothing is told -/
end Go.Eng
namespace Go
@[reducible] def Value.i (x:Int):Value:=.int .i64 x
end Go
namespace Go.Eng
open Go Go.RowKit
/-! ## Cells whose numbers may turn: what is written into them is not told -/
inductive TU:Value->Value->Prop
 |refl (u:Value):TU u u
 |int (k:IntKind) (m n:Int):TU (.int k m) (.int k n)
 |bool (a b:Bool):TU (.bool a) (.bool b)
 |str (a b:ByteArray):TU (.string a) (.string b)
theorem TU.trans{a b c:Value}(h:TU a b)(k:TU b c):TU a c:=by
 cases h with
 |refl=>exact k
 |int kk m n=>cases k with
  |refl=>exact .int kk m n
  |int _ _ q=>exact .int kk m q
 |bool x y=>cases k with
  |refl=>exact .bool x y
  |bool _ q=>exact .bool x q
 |str x y=>cases k with
  |refl=>exact .str x y
  |str _ q=>exact .str x q
def TX(us vs:List Value):Prop:=us.length=vs.length∧∀(j:Nat) (u v:Value),us[j]? =some u->vs[j]? =some v->TU u v
theorem TX.refl(us:List Value):TX us us:=⟨rfl,fun j u v h k=>by rw [h]at k;obtain rfl:=Ai k;exact .refl _⟩
structure Td(p:Nat->Prop)(w w':World):Prop where
 but:Cb p w w'
 cell:∀b off u,w.cell? ⟨b,off,none⟩=some u->∃u',w'.cell? ⟨b,off,none⟩=some u'∧TU u u'
 froz:∀b off,b<w.heap.size->w.frozen? ⟨b,off,none⟩=false->w'.frozen? ⟨b,off,none⟩=false
section
variable {p q:Nat -> Prop} {w a c:World}
theorem Td.refl(p:Nat->Prop)(w:World):Td p w w:=⟨Cb.refl p w,fun _ _ u h=>⟨u,h,.refl _⟩,fun _ _ _ h=>h⟩
theorem Td.ofBut(h:Cb p w a)(E:∀k,k<w.heap.size->a.heap[k]? =w.heap[k]?):Td p w a:=
 ⟨h,fun b off u hu=>⟨u,by rw [GO (w:=w) (E b (Do _ _ hu))];exact hu,.refl _⟩,fun b off hl F=>by rw [Ib (E b hl)];exact F⟩
theorem Td.then(h:Td p w a)(k:Td q a c)(W:Cb p w c):Td p w c:=
 ⟨W,fun b off u hu=>by
  obtain⟨Y,O,F⟩:=h.cell b off u hu
  obtain⟨I,U,J⟩:=k.cell b off Y O
  exact⟨I,U,F.trans J⟩,fun b off hl E=>k.froz b off (Eh hl h.but.size) (h.froz b off hl E)⟩
theorem Td.ext(h:Td p w a)(E:Bl a c):Td p w c:=
 h.then (q:=fun _=>False) (Td.ofBut ⟨E.os,E.tape,E.output,E.size,fun k hk _=>E.block k hk⟩ fun k hk=>E.block k hk) (h.but.ext E)
theorem Td.sim(h:Td p w a)(k:Td q a c)(E:∀k,q k->p k∨w.heap.size<=k):Td p w c:=h.then k (h.but.but k.but E)
theorem Td.upd{b:Nat}(h:Td p w a)(hu:JF b a c)(O:w.heap.size<=b):Td p w c:=
 ⟨h.but.upd hu (.inr O),fun d off u E=>by
  obtain⟨U,J,I⟩:=h.cell d off u E
  have:=Do _ _ E
  exact⟨U,by rw [GO (w:=a) (hu.block d (by show d≠b;have:d<w.heap.size:=this;omega))];exact J,I⟩,fun d off hl F=>by
  rw [Ib (hu.block d (by omega))];exact h.froz d off hl F⟩
end
theorem BK.cons{w:World}{b off:Nat}{u:Value}{us:List Value}(h:BK w b off (u::us)):(w.cell? ⟨b,off,none⟩=some u∧w.frozen? ⟨b,off,none⟩=false)∧BK w b (off+1) us:=
 ⟨by have:=h 0 u rfl;rwa [HA]at this,fun j v E=>by have:=h (j+1) v (by simpa using E);rwa [show off+(j+1)=off+1+j by omega]at this⟩
theorem BK.mk{w:World}{b off:Nat}{u:Value}{us:List Value}(F:w.cell? ⟨b,off,none⟩=some u∧w.frozen? ⟨b,off,none⟩=false)(h:BK w b (off+1) us):BK w b off (u::us):=fun j v E=>by
 cases j with
 |zero=>obtain rfl:u=v:=by simpa using E
        rw [HA];exact F
 |succ j=>rw [show off+(j+1)=off+1+j by omega];exact h j v (by simpa using E)
theorem BK.sim{p:Nat->Prop}{w w':World}(E:Td p w w'){b:Nat}:∀{us:List Value} {off:Nat},BK w b off us->∃us',TX us us'∧BK w' b off us'
 |[],off,_=>⟨[],TX.refl _,fun j u h=>by simp at h⟩
 |u::us,off,h=>by
  obtain⟨⟨J,Z⟩,h3⟩:=h.cons
  obtain⟨us',⟨U,W⟩,Y⟩:=BK.sim E h3
  obtain⟨F,h4,h5⟩:=E.cell b off u J
  refine⟨F::us',⟨by simp [U],fun j x y O I=>?_⟩,BK.mk ⟨h4,E.froz b off (Do _ _ J) Z⟩ Y⟩
  cases j with
  |zero=>obtain rfl:u=x:=by simpa using O
         obtain rfl:F=y:=by simpa using I
         exact h5
  |succ j=>exact W j x y (by simpa using O) (by simpa using I)
/-! ## Codecs that do not tell numbers -/
class WN{α:Type}(c:FC α):Prop where
 sim:∀{p:Nat->Prop} {w w':World} {S:Nat->Prop} {x:α} {vs vs':List Value},c.rep w S x vs->Td p w w'->TX vs vs'->c.rep w' S x vs'
theorem TX.one{u:Value}{vs:List Value}(h:TX [u] vs):∃v,vs=[v]∧TU u v:=by
 obtain⟨v,rfl⟩:=Fp.1 h.1.symm
 exact⟨v,rfl,h.2 0 u v rfl rfl⟩
theorem TX.app{us ts vs:List Value}(h:TX (us++ts) vs):∃I E,vs=I++E∧TX us I∧TX ts E:=by
 obtain⟨U,O⟩:=h
 rw [CA]at U
 refine⟨vs.take us.length,vs.drop us.length,(DZ _ _).symm,⟨by simp;omega,fun j u v hu F=>?_⟩,⟨by simp;omega,fun j u v hu F=>?_⟩⟩
 ·have J:=(AR.1 hu).1
  rw [Cm,BE J]at F
  exact O j u v (by rw [BA J];exact hu) F
 ·rw [Cv]at F
  exact O (us.length+j) u v (by rw [BI (by omega),FY];exact hu) F
instance {α β:Type}(c:FC α)(d:FC β)[hc:WN c][hd:WN d]:WN (DL c d):=⟨fun⟨us,ts,e,h1,h2⟩ hs h=>by
 subst e;obtain⟨vs1,vs2,rfl,k1,k2⟩:=h.app
 exact⟨vs1,vs2,rfl,hc.sim h1 hs k1,hd.sim h2 hs k2⟩⟩
instance {α β:Type}(f:β->α)(c:FC α)[hc:WN c]:WN (Gj f c):=⟨fun h hs k=>hc.sim h hs k⟩
theorem Ae.sim{α:Type}{c:FC α}[hc:WN c]{p:Nat->Prop}{w w':World}{S:Nat->Prop}{xs:List α}{v:Value}(h:Ae c w S xs v)(I:Td p w w'):Ae c w' S xs v:=by
 obtain⟨a,F,h1,Z,h3,h4⟩:=h
 refine⟨a,F,h1,Z,h3,fun hl=>?_⟩
 obtain⟨b,off,h5,O,Y⟩:=h4 hl
 refine⟨b,off,h5,O,fun i x hx=>?_⟩
 obtain⟨us,W,E⟩:=Y i x hx
 obtain⟨us',J,U⟩:=E.sim I
 exact⟨us',hc.sim W I J,U⟩
instance {α:Type}(c:FC α)[WN c]:WN (HU c):=⟨fun⟨v,e,h⟩ hs k=>by
 subst e;obtain⟨v',rfl,k2⟩:=k.one
 obtain⟨a,cap,rfl,_⟩:=id h
 cases k2
 exact⟨_,rfl,h.sim hs⟩⟩
section
variable {P:Program} {N:Nat} {o:Oper} {K:KL} {w:World}
end
/-! ## Worlds, in fewer words -/
theorem AS.slG{α:Type}{c:FC α}{w:World}{B:Nat}{S S':Nat->Prop}{e:TypeId}{xs:List α}{v:Value}(h:AS c w B S e xs v)(Y:∀k,S k->S' k)(hb:∀g,v.ownBlock=some g->S' g):Ae c w S' xs v:=by
 obtain⟨cs,J,h3⟩:=h
 have I:=J
 obtain⟨hl,⟨rfl,hn⟩|⟨g,F,O,rfl,_,W,Z,U,h7,h8⟩⟩:=I
 ·have:xs=[]:=CN hn
  subst this;exact Ae.nil _ _ _
 ·refine⟨some ⟨g,0,none⟩,F,rfl,⟨Z,fun h=>by cases h⟩,by simpa [maxLen] using U,fun hpos=>⟨g,0,rfl,hb g rfl,fun i x hx=>⟨_,c.mono (h3 i x hx) Y (fun _ _=>rfl),fun j u hu=>?_⟩⟩⟩
  have E:j<c.n:=by
   have:=(AR.1 hu).1
   simp [CG]at this;omega
  rw [DM E]at hu
  have:=J.cells (g:=g) rfl _ _ hu
  rw [Fa]at this
  rw [show 0+i*c.n+j=0+(i*c.n+j) by omega];exact⟨this,by simp [World.frozen?,W]⟩
theorem nr{n:Nat}:n<=n:=Bj n
end Go.Eng
