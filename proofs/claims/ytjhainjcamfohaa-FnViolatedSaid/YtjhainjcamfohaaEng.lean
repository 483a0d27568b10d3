/- The proof engine: what a function of the model computes, said by a plain function; no condition. -/
import Derived.WalkKit
import Derived.WalkSpells
import Derived.WalkLawsBesides
import Derived.Deep.QuietTactic
import Derived.Deep.Slices
import Derived.StillTailTactics
import Derived.OrdersHeld
import Derived.StillTail
import Derived.Carry
import Derived.ChangeSame
import Derived.Handed
import Derived.WideShapes
import Derived.ProofKit
import Derived.Laws.Cover3
import Derived.Laws.BytesString
import Derived.LaidLaws
import Derived.Stop.Joined
import Derived.Laws.StructEq
set_option linter.all false
namespace Go.Eng
open Go Go.RowKit
/-! ## Frames: what is known of the slots -/
abbrev KL:=List (Nat × Value)
def kl:KL → Nat → Option Value
 | [],_=>none
 | (s,v) :: K,t=>bif Nat.beq s t then some v else kl K t
structure Kn (N:Nat) (K:KL) (a:Act):Prop where
 df:a.defers = []
 sz:N ≤ a.tmps.size
 get:∀ t v,kl K t = some v → a.tmps[t]? = some v
def kev (K:KL):Operand → Option Value
 | .tmp t=>kl K t
 | .const v=>some v
 | .func f=>some (.func (.func f) #[] #[])
 | _=>none
theorem Kn.ev {N K a x v} (h:Kn N K a) (hx:kev K x = some v):a.eval x = v:=by
 cases x with
 | tmp t=>have:=h.get t v hx; simp [Act.eval,Array.getD_eq_getD_getElem?,this]
 | const c=>simpa [Act.eval,kev] using hx
 | func f=>simpa [Act.eval,kev] using hx
 | global g=>simp [kev] at hx
def kput (K:KL):Option Tmp → Value → KL
 | some d,v=>(d,v) :: K
 | none,_=>K
theorem Kn.put {N K a v} {d:Option Tmp} (h:Kn N K a) (hd:∀ t,d = some t → Nat.blt t N = true):Kn N (kput K d v) (a.put d v):=by
 cases d with
 | none=>exact h
 | some d =>
  have hdn:d < N:=by have:=hd d rfl; simpa [Nat.blt,Nat.succ_le_iff] using this
  refine ⟨h.df,by simpa [Act.put] using h.sz,fun t u ht=>?_⟩
  have hsz:=h.sz
  simp only [kput,kl] at ht
  by_cases e:d = t
  ·subst e
   simp at ht
   subst ht
   have hlt:d < a.tmps.size:=Nat.lt_of_lt_of_le hdn hsz
   simp [Act.put,hlt]
  ·have hb:Nat.beq d t = false:=by cases hq:Nat.beq d t with
   | false=>rfl
   | true=>exact absurd (Nat.eq_of_beq_eq_true hq) e
   rw [hb] at ht
   have:=h.get t u (by simpa using ht)
   simp [Act.put,Array.getElem?_setIfInBounds,e,this]
def kall:KL → KL → Prop
 | [],_=>True
 | (t,v) :: K',K=>kl K t = some v ∧ kall K' K
theorem Kn.weaken {N K K' a} (h:Kn N K a) (hk:kall K' K):Kn N K' a:=by
 refine ⟨h.df,h.sz,fun t v ht=>h.get t v ?_⟩
 induction K' with
 | nil=>simp [kl] at ht
 | cons p K' ih =>
  obtain ⟨s,u⟩:=p
  obtain ⟨h1,h2⟩:=hk
  simp only [kl] at ht
  by_cases e:s = t
  ·subst e; simp at ht; subst ht; exact h1
  ·have hb:Nat.beq s t = false:=by cases hq:Nat.beq s t with
   | false=>rfl
   | true=>exact absurd (Nat.eq_of_beq_eq_true hq) e
   rw [hb] at ht
   exact ih h2 (by simpa using ht)
/-! ## Worlds -/
abbrev Ext (w w':World):Prop:=Below w.heap.size w w'
theorem Ext.refl (w:World):Ext w w:=Below.refl _ _
theorem Ext.trans {a b c:World} (h:Ext a b) (k:Ext b c):Ext a c:=Below.trans h (k.mono h.size)
theorem Ext.drew (w:World):Ext w w.drew:=(Below.refl _ _).drew
theorem Ext.alloc (w:World) (o:Obj):Ext w (w.alloc o):=(Below.refl _ _).alloc (Nat.le_refl _) o
/-! ## Text order -/
section
variable {P:Program} {N:Nat}
def TL (P:Program) (N:Nat) (ops:Array Oper) (Q:Exit → Act → World → Prop) (l:List Oper) (K:KL) (w:World):Prop :=
 ∀ a,Kn N K a → wpList P ops Q l a w
def WC (P:Program) (N:Nat) (c:Code) (Q:Exit → Act → World → Prop) (K:KL) (w:World):Prop :=
 ∀ a,Kn N K a → c.wp P Q a w
def Yld (P:Program) (N:Nat) (K:KL) (o:Oper) (w:World) (v:Value):Prop :=
 ∀ a,Kn N K a → ∀ w',Ext w w' → (execOp a.eval o).run P w' = .ok (.value v) w'
def Eff (P:Program) (N:Nat) (K:KL) (o:Oper) (w:World) (R:Value → World → Prop):Prop :=
 ∀ a,Kn N K a → ∀ (Kt:Act → World → Prop) Q,(∀ v w',R v w' → Kt (a.put o.dst v) w') → o.wp P a w Kt Q
def okDst (N:Nat):Option Tmp → Bool
 | none=>true
 | some d=>Nat.blt d N
theorem okDst.h {N:Nat} {d:Option Tmp} (h:okDst N d = true):∀ t,d = some t → Nat.blt t N = true:=by
 intro t e; subst e; exact h
theorem Yld.eff {K o w v} (h:Yld P N K o w v):Eff P N K o w (fun u w'=>u = v ∧ w' = w):=by
 intro a hK Kt Q hk
 unfold Oper.wp
 rw [h a hK w (Ext.refl w)]
 exact hk v w ⟨rfl,rfl⟩
theorem TL.yld {ops Q o rest K w v} (hg:o.guard = none) (hd:okDst N o.dst = true) (h:Yld P N K o w v)
 (k:TL P N ops Q rest (kput K o.dst v) w):TL P N ops Q (o :: rest) K w:=by
 intro a hK
 refine wpList_plain hg fun Kt hKt=>?_
 exact h.eff a hK Kt Q fun u w' ⟨e1,e2⟩=>by subst e1 e2; exact hKt _ _ (k _ (hK.put (okDst.h hd)))
theorem TL.eff {ops Q o rest K w R} (hg:o.guard = none) (hd:okDst N o.dst = true) (h:Eff P N K o w R)
 (k:∀ v w',R v w' → TL P N ops Q rest (kput K o.dst v) w'):TL P N ops Q (o :: rest) K w:=by
 intro a hK
 refine wpList_plain hg fun Kt hKt=>?_
 exact h a hK Kt Q fun u w' hR=>hKt _ _ (k u w' hR _ (hK.put (okDst.h hd)))
theorem TL.nil {ops Q K w} (h:∀ a,Kn N K a → Q .normal a w):TL P N ops Q [] K w:=fun a hK=>h a hK
/-! ## Operations -/
section ops
variable {K:KL} {o:Oper} {w:World}
theorem yld_move {x v} (ho:o.op = .move x) (hx:kev K x = some v):Yld P N K o w v:=by
 intro a hK w' _
 simp [execOp,ho,hK.ev hx]
theorem yld_assign {x v} (ho:o.op = .assign x) (hx:kev K x = some v):Yld P N K o w v:=by
 intro a hK w' _
 simp [execOp,ho,hK.ev hx]
theorem yld_add {t x y u k m n} (ho:o.op = .binOp .add t x y u) (hx:kev K x = some (.int k m)) (hy:kev K y = some (.int k n)):Yld P N K o w (.int k (k.wrap (m + n))):=by
 intro a hK w' _
 simp [execOp,ho,hK.ev hx,hK.ev hy,eqGuard,binOp,Op.intArith]
theorem yld_sub {t x y u k m n} (ho:o.op = .binOp .sub t x y u) (hx:kev K x = some (.int k m)) (hy:kev K y = some (.int k n)):Yld P N K o w (.int k (k.wrap (m - n))):=by
 intro a hK w' _
 simp [execOp,ho,hK.ev hx,hK.ev hy,eqGuard,binOp,Op.intArith]
theorem yld_mul {t x y u k m n} (ho:o.op = .binOp .mul t x y u) (hx:kev K x = some (.int k m)) (hy:kev K y = some (.int k n)):Yld P N K o w (.int k (k.wrap (m * n))):=by
 intro a hK w' _
 simp [execOp,ho,hK.ev hx,hK.ev hy,eqGuard,binOp,Op.intArith]
theorem yld_quo {t x y u k m n} (ho:o.op = .binOp .quo t x y u) (hx:kev K x = some (.int k m)) (hy:kev K y = some (.int k n)) (h0:n ≠ 0):Yld P N K o w (.int k (k.wrap (m.tdiv n))):=by
 intro a hK w' _
 simp [execOp,ho,hK.ev hx,hK.ev hy,eqGuard,binOp,Op.intDiv,h0]
theorem yld_rem {t x y u k m n} (ho:o.op = .binOp .rem t x y u) (hx:kev K x = some (.int k m)) (hy:kev K y = some (.int k n)) (h0:n ≠ 0):Yld P N K o w (.int k (m.tmod n)):=by
 intro a hK w' _
 simp [execOp,ho,hK.ev hx,hK.ev hy,eqGuard,binOp,Op.intDiv,h0]
theorem yld_lss {t x y u k m n} (ho:o.op = .binOp .lss t x y u) (hx:kev K x = some (.int k m)) (hy:kev K y = some (.int k n)):Yld P N K o w (.bool (decide (m < n))):=by
 intro a hK w' _
 simp [execOp,ho,hK.ev hx,hK.ev hy,eqGuard,binOp,Op.intCmp]
theorem yld_leq {t x y u k m n} (ho:o.op = .binOp .leq t x y u) (hx:kev K x = some (.int k m)) (hy:kev K y = some (.int k n)):Yld P N K o w (.bool (decide (m ≤ n))):=by
 intro a hK w' _
 simp [execOp,ho,hK.ev hx,hK.ev hy,eqGuard,binOp,Op.intCmp]
theorem yld_gtr {t x y u k m n} (ho:o.op = .binOp .gtr t x y u) (hx:kev K x = some (.int k m)) (hy:kev K y = some (.int k n)):Yld P N K o w (.bool (decide (m > n))):=by
 intro a hK w' _
 simp [execOp,ho,hK.ev hx,hK.ev hy,eqGuard,binOp,Op.intCmp]
theorem yld_geq {t x y u k m n} (ho:o.op = .binOp .geq t x y u) (hx:kev K x = some (.int k m)) (hy:kev K y = some (.int k n)):Yld P N K o w (.bool (decide (m ≥ n))):=by
 intro a hK w' _
 simp [execOp,ho,hK.ev hx,hK.ev hy,eqGuard,binOp,Op.intCmp]
theorem yld_eql {t x y u k m n} (ho:o.op = .binOp .eql t x y u) (hx:kev K x = some (.int k m)) (hy:kev K y = some (.int k n)):Yld P N K o w (.bool (m == n)):=by
 intro a hK w' _
 simp [execOp,ho,hK.ev hx,hK.ev hy,eqGuard,binOp,Op.intCmp]
theorem yld_neq {t x y u k m n} (ho:o.op = .binOp .neq t x y u) (hx:kev K x = some (.int k m)) (hy:kev K y = some (.int k n)):Yld P N K o w (.bool (m != n)):=by
 intro a hK w' _
 simp [execOp,ho,hK.ev hx,hK.ev hy,eqGuard,binOp,Op.intCmp]
theorem yld_eqs {t x y u m n} (ho:o.op = .binOp .eql t x y u) (hx:kev K x = some (.string m)) (hy:kev K y = some (.string n)):Yld P N K o w (.bool (m.toList == n.toList)):=by
 intro a hK w' _
 simp [execOp,ho,hK.ev hx,hK.ev hy,eqGuard,binOp,Op.stringOp]
theorem yld_nes {t x y u m n} (ho:o.op = .binOp .neq t x y u) (hx:kev K x = some (.string m)) (hy:kev K y = some (.string n)):Yld P N K o w (.bool (m.toList != n.toList)):=by
 intro a hK w' _
 simp [execOp,ho,hK.ev hx,hK.ev hy,eqGuard,binOp,Op.stringOp,bne]
theorem yld_not {t x b} (ho:o.op = .unOp .not t x) (hx:kev K x = some (.bool b)):Yld P N K o w (.bool (!b)):=by
 intro a hK w' _
 simp [execOp,ho,hK.ev hx,Op.unary]
theorem yld_neg {t x k m} (ho:o.op = .unOp .neg t x) (hx:kev K x = some (.int k m)):Yld P N K o w (.int k (k.wrap (0 - m))):=by
 intro a hK w' _
 simp [execOp,ho,hK.ev hx,Op.unary,Op.intArith]
theorem yld_pick_t {c x y b u} (ho:o.op = .pick c x y) (hc:kev K c = some (.bool b)) (hb:b = true) (hx:kev K x = some u):Yld P N K o w u:=by
 intro a hK w' _
 subst hb
 simp [execOp,ho,hK.ev hc,hK.ev hx,asBool]
theorem yld_pick_f {c x y b u} (ho:o.op = .pick c x y) (hc:kev K c = some (.bool b)) (hb:b = false) (hx:kev K y = some u):Yld P N K o w u:=by
 intro a hK w' _
 subst hb
 simp [execOp,ho,hK.ev hc,hK.ev hx,asBool]
theorem yld_len {t x base n c e} (ho:o.op = .call { callee:=.builtin .len,args:=#[x],argTypes:=#[t] }) (ht:P.underlying t = some (.slice e)) (hx:kev K x = some (.slice base n c)):Yld P N K o w (.int .i64 n):=by
 intro a hK w' _
 simp [execOp,ho,resolve,invoke,builtin,hK.ev hx,Builtin.len_,run_underlying ht,goInt]
theorem yld_extract {x i vs u} (ho:o.op = .extract x i) (hx:kev K x = some (.tuple vs)) (hi:vs[i]? = some u):Yld P N K o w u:=by
 intro a hK w' _
 simp [execOp,ho,hK.ev hx,Instr.extract,hi]
theorem yld_conv {s t x k j m} (ho:o.op = .convert s t x) (hs:P.underlying s = some (.int j)) (ht:P.underlying t = some (.int k)) (hx:kev K x = some (.int j m)):Yld P N K o w (.int k (k.wrap m)):=by
 intro a hK w' _
 simp [execOp,ho,hK.ev hx,convert,run_underlying hs,run_underlying ht,Conv.intToInt]
end ops
end
end Go.Eng
namespace Go.Eng
open Go Go.RowKit
section
variable {P:Program} {N:Nat}
/-! ## Memory -/
theorem frozen_of_block {w w':World} {b off:Nat} (e:w'.heap[b]? = w.heap[b]?):w'.frozen? ⟨b,off,none⟩ = w.frozen? ⟨b,off,none⟩:=by simp only [World.frozen?,e]
def CellsAt (w:World) (b off:Nat) (us:List Value):Prop:=∀ j u,us[j]? = some u → w.cell? ⟨b,off + j,none⟩ = some u ∧ w.frozen? ⟨b,off + j,none⟩ = false
theorem CellsAt.block {w w':World} {b off us} (h:CellsAt w b off us) (e:w'.heap[b]? = w.heap[b]?):CellsAt w' b off us :=
 fun j u hu=>⟨by rw [World.cell?_of_block (w:=w) e]; exact (h j u hu).1,by rw [frozen_of_block e]; exact (h j u hu).2⟩
theorem CellsAt.below {w w':World} {B b off us} (h:CellsAt w b off us) (hb:Below B w w') (hlt:b < B):CellsAt w' b off us :=
 h.block (hb.block b hlt)
theorem CellsAt.ext {w w':World} {b off us} (h:CellsAt w b off us) (he:Ext w w'):CellsAt w' b off us :=
 fun j u hu=>h.block (he.block b (World.block_lt_of_cell? _ _ (h j u hu).1)) j u hu
def Box (w:World) (b:Nat) (us:List Value) (t:TypeId):Prop:=w.heap[b]? = some (.cells us.toArray t (0,0))
theorem Box.lt {w:World} {b us t} (h:Box w b us t):b < w.heap.size:=(Array.getElem?_eq_some_iff.1 h).1
theorem Box.cells {w:World} {b us t} (h:Box w b us t):CellsAt w b 0 us:=fun j u hu=>by
 refine ⟨?_,by unfold Box at h; simp [World.frozen?,h]⟩
 rw [Nat.zero_add,cell_of_row w b j _ t _ h]; simpa using hu
theorem Box.ext {w w':World} {b us t} (h:Box w b us t) (he:Ext w w'):Box w' b us t:=by
 unfold Box; rw [he.block b h.lt]; exact h
structure Upd (b:Nat) (w w':World):Prop where
 os:w'.os = w.os
 tape:w'.tape = w.tape
 output:w'.output = w.output
 size:w'.heap.size = w.heap.size
 block:∀ k,k ≠ b → w'.heap[k]? = w.heap[k]?
theorem Upd.below {b B:Nat} {w w':World} (h:Upd b w w') (hB:B ≤ b):Below B w w' :=
 ⟨h.os,h.tape,h.output,by rw [h.size]; exact Nat.le_refl _,fun k hk=>h.block k (by omega)⟩
theorem Box.upd {w w':World} {b c us t} (h:Box w b us t) (he:Upd c w w') (hne:b ≠ c):Box w' b us t:=by
 unfold Box; rw [he.block b hne]; exact h
theorem CellsAt.upd {w w':World} {b c off us} (h:CellsAt w b off us) (he:Upd c w w') (hne:b ≠ c):CellsAt w' b off us :=
 h.block (he.block b hne)
theorem Upd.setRow (w:World) (b:Nat) (cs:Array Value):Upd b w (w.setRow b cs) :=
 ⟨rfl,rfl,rfl,by simp,fun k hk=>setRow_other w b k cs hk⟩
def fieldOff (P:Program) (t f:Nat):Option Nat :=
 match P.underlying t with
 | some (.struct fs)=>match fs[f]? with
  | some fd=>match P.info? fd.type with
   | some i=>if i.size = 0 then none else some fd.offset
   | none=>none
  | none=>none
 | _=>none
def aggB (P:Program) (t:Nat):Option Bool :=
 match P.underlying t with
 | some (.struct _) | some (.array _ _)=>some true
 | some _=>some false
 | none=>none
def cellsN (P:Program) (t:Nat):Option Nat:=(P.info? t).map (·.size)
def zeroN (P:Program) (t:Nat):Option (List Value):=(P.info? t).bind fun i=>i.zero.map (·.cells.toList)
theorem addr_add (b off n:Nat):(⟨b,off,none⟩:Addr).add n = ⟨b,off + n,none⟩:=by
 unfold Addr.add; split <;> simp_all
section
variable {K:KL} {o:Oper} {w:World}
theorem yld_fieldAddr {t x f b off fo} (ho:o.op = .fieldAddr t x f) (hf:fieldOff P t f = some fo) (hx:kev K x = some (.pointer (some ⟨b,off,none⟩))) :
 Yld P N K o w (.pointer (some ⟨b,off + fo,none⟩)):=by
 intro a hK w' _
 unfold fieldOff at hf
 split at hf
 ·rename_i fs hu
  split at hf
  ·rename_i fd hfd
   split at hf
   ·rename_i i hi
    split at hf
    ·cases hf
    ·rename_i hs
     injection hf with hf
     simp [execOp,ho,hK.ev hx,Instr.fieldAt,run_underlying hu,hfd,Instr.sureAddr,fieldPlace,sizeOf,typeInfo,hi,hs,addr_add,hf]
   ·cases hf
  ·cases hf
 ·cases hf
theorem run_isAgg {t b} (h:aggB P t = some b) (w:World):(isAgg t).run P w = .ok b w:=by
 unfold aggB at h
 unfold isAgg
 split at h
 ·rename_i hu; injection h with h; subst h; simp [run_underlying hu]
 ·rename_i hu; injection h with h; subst h; simp [run_underlying hu]
 ·rename_i d h1 h2 hu; injection h with h; subst h
  rw [Sem.run_bind,run_underlying hu]
  cases d <;> first | rfl | exact absurd rfl (h1 _) | exact absurd rfl (h2 _ _)
 ·cases h
theorem yld_load1 {t x b o0 off us u} (j:Nat) (ho:o.op = .load t x) (ha:aggB P t = some false) (hx:kev K x = some (.pointer (some ⟨b,off,none⟩))) (hcs:CellsAt w b o0 us) (hj:off = o0 + j) (hu:us[j]? = some u):Yld P N K o w u:=by
 have hc:w.cell? ⟨b,off,none⟩ = some u:=by rw [hj]; exact (hcs j u hu).1
 intro a hK w' he
 have hc':w'.cell? ⟨b,off,none⟩ = some u:=by rw [he.cell (World.block_lt_of_cell? _ _ hc)]; exact hc
 simp [execOp,ho,hK.ev hx,Instr.loadAt,Instr.sureAddr,loadVar,Sem.run_bind,run_isAgg ha,hc']
theorem CellsAt.sub {w:World} {b off:Nat} {us:List Value} (h:CellsAt w b off us) (i n:Nat):CellsAt w b (off + i) ((us.drop i).take n):=fun j u hu=>by
 rw [List.getElem?_take] at hu
 split at hu
 ·rw [List.getElem?_drop] at hu; rw [Nat.add_assoc]; exact h (i + j) u hu
 ·cases hu
theorem yld_loadN {t x b off us} (ho:o.op = .load t x) (ha:aggB P t = some true) (hx:kev K x = some (.pointer (some ⟨b,off,none⟩))) (hc:CellsAt w b off us) (hn:cellsN P t = some us.length) :
 Yld P N K o w (.agg us.toArray):=by
 intro a hK w' he
 have hc':=hc.ext he
 obtain ⟨i,hi,hs⟩:=Option.map_eq_some_iff.1 hn
 have hl:(loadCells ⟨b,off,none⟩ us.length).run P w' = .ok us.toArray w' :=
  run_loadCells_list (P:=P) w' ⟨b,off,none⟩ us (fun j v hv=>by rw [addr_add]; exact (hc' j v hv).1)
 simp [execOp,ho,hK.ev hx,Instr.loadAt,Instr.sureAddr,loadVar,Sem.run_bind,run_isAgg ha,sizeOf,typeInfo,hi,hs,hl]
theorem eff_store {t x y b off v cur e} (ho:o.op = .store t x y) (hx:kev K x = some (.pointer (some ⟨b,off,none⟩))) (hy:kev K y = some v) (hb:Box w b cur e) (hn:cellsN P t = some v.cells.toList.length)
 (h1:v.cells.toList.all Value.oneCell' = true) (hfit:Nat.ble (off + v.cells.toList.length) cur.length = true) :
 Eff P N K o w (fun _ w'=>Upd b w w' ∧ Box w' b (cur.take off ++ v.cells.toList ++ cur.drop (off + v.cells.toList.length)) e):=by
 intro a hK Kt Q hk
 obtain ⟨i,hi,hs⟩:=Option.map_eq_some_iff.1 hn
 have hfit:=Nat.le_of_ble_eq_true hfit
 have hst:=run_storeCells_at P b off e v.cells.toList 0 cur.toArray w hb (by simpa using hfit) (List.all_eq_true.1 h1)
 simp only [Nat.add_zero] at hst
 unfold Oper.wp
 have hr:(execOp a.eval o).run P w = .ok .skip (w.setRow b (cur.take off ++ v.cells.toList ++ cur.drop (off + v.cells.toList.length)).toArray):=by
  simp [execOp,ho,hK.ev hx,hK.ev hy,Instr.storeAt,Instr.sureAddr,storeVar,Sem.run_bind,sizeOf,typeInfo,hi,hs] at hst ⊢
  rw [hst]
  simp
 rw [hr]
 exact hk _ _ ⟨Upd.setRow _ _ _,by unfold Box; exact setRow_heap w b _ _ e _ hb⟩
def NewBox (w w':World) (b:Nat) (us:List Value) (t:TypeId):Prop:=b = w.heap.size ∧ w'.heap.size = w.heap.size + 1 ∧ Ext w w' ∧ Box w' b us t
theorem NewBox.of (w:World) (us:List Value) (t:TypeId):NewBox w (w.alloc (.cells us.toArray t)) w.heap.size us t :=
 ⟨rfl,by simp,Ext.alloc _ _,heap_alloc_new w _⟩
theorem eff_alloc {t zs} (ho:o.op = .alloc t) (hz:zeroN P t = some zs) :
 Eff P N K o w (fun v w'=>∃ b,v = .pointer (some ⟨b,0,none⟩) ∧ NewBox w w' b zs t):=by
 intro a hK Kt Q hk
 unfold zeroN at hz
 obtain ⟨i,hi,hz2⟩:=Option.bind_eq_some_iff.1 hz
 obtain ⟨z,hz3,hz4⟩:=Option.map_eq_some_iff.1 hz2
 have hr:(execOp a.eval o).run P w = .ok (.value (.pointer (some ⟨w.heap.size,0,none⟩))) (w.alloc (.cells zs.toArray t)):=by
  subst hz4
  simp [execOp,ho,Instr.alloc,zeroValue,typeInfo,hi,hz3,newVar,newRow,newObj]; simp [Sem.run,Result.andThen]
 unfold Oper.wp
 rw [hr]
 exact hk _ _ ⟨_,rfl,NewBox.of w zs t⟩
theorem eff_box {t x v} (ho:o.op = .box t x) (hx:kev K x = some v) :
 Eff P N K o w (fun u w'=>∃ b,u = .pointer (some ⟨b,0,none⟩) ∧ NewBox w w' b v.cells.toList t):=by
 intro a hK Kt Q hk
 have hr:(execOp a.eval o).run P w = .ok (.value (.pointer (some ⟨w.heap.size,0,none⟩))) (w.alloc (.cells v.cells.toList.toArray t)):=by
  simp [execOp,ho,hK.ev hx,Instr.box,newVar,newRow,newObj]; simp [Sem.run,Result.andThen]
 unfold Oper.wp
 rw [hr]
 exact hk _ _ ⟨_,rfl,NewBox.of w _ t⟩
/-! ## Calls -/
def kevs (K:KL):List Operand → Option (List Value)
 | []=>some []
 | x :: xs=>match kev K x,kevs K xs with | some v,some vs=>some (v :: vs) | _,_=>none
theorem Kn.evs {K a} (h:Kn N K a):∀ {xs vs},kevs K xs = some vs → xs.map a.eval = vs
 | [],vs,e=>by simp [kevs] at e; subst e; rfl
 | x :: xs,vs,e=>by
  unfold kevs at e
  split at e
  ·rename_i v vs' h1 h2
   injection e with e; subst e
   simp [h.ev h1,h.evs h2]
  ·cases e
def goFn (P : Program) (f : FuncId) : Bool := match P.funcs[f]? with | some fn => !(fn.name == "runtime.NumGoroutine") && fn.body.isSome | none => false
theorem run_goFn {f} (h:goFn P f = true) (args:Array Value) (w:World):(callFunc f args).run P w = .ok (.enter f args) w:=by
 unfold goFn at h
 split at h
 ·rename_i fn hf
  simp only [Bool.and_eq_true,Bool.not_eq_true'] at h
  have hb:fn.body.isNone = false:=by cases hq:fn.body <;> simp_all
  have hb2:¬ fn.body = none:=by intro e; simp [e] at hb
  have h1 : ¬ fn.name = "runtime.NumGoroutine" := by intro e; simp [e] at h
  simp [callFunc,hf,h1,hb2]
 ·cases h
def Ret (R:Value → World → Prop):Ending → World → Prop:=fun e w'=>∃ v,e = .returned v ∧ R v w'
theorem eff_call {f args tys vs} {R:Value → World → Prop} (ho:o.op = .call { callee:=.value (.func f),args:=args,argTypes:=tys }) (hf:goFn P f = true)
 (ha:kevs K args.toList = some vs) (hc:Calls P f vs.toArray w (Ret R)):Eff P N K o w R:=by
 intro a hK Kt Q hk
 have he:args.map a.eval = vs.toArray:=by
  have:=hK.evs ha
  apply Array.ext'
  simpa using this
 have hr:(execOp a.eval o).run P w = .ok (.enter f vs.toArray) w:=by
  simp [execOp,ho,resolve,Act.eval,Deferred.ofValue,invoke,he,run_goFn hf]
 unfold Oper.wp
 rw [hr]
 exact hc.mono fun e w' ⟨v,he,hR⟩=>by subst he; exact hk _ _ hR
end
/-! ## Code -/
section
variable {Q:Exit → Act → World → Prop} {K:KL} {w:World}
theorem WC.seq {x y:Code} (h:WC P N x (Exit.then (fun a' w'=>y.wp P Q a' w') Q) K w):WC P N (.seq x y) Q K w:=fun a hK=>wp_seq (h a hK)
theorem WC.region {id:Nat} {l:List Oper} (h:TL P N l.toArray Q l K w):WC P N (.region id l.toArray false) Q K w:=fun a hK=>wp_region_lit (h a hK)
theorem WC.block {id:Nat} {c:Code} (h:WC P N c (Exit.inBlock id Q) K w):WC P N (.block id c) Q K w:=fun a hK=>wp_block (h a hK)
theorem WC.skip (h:∀ a,Kn N K a → Q .normal a w):WC P N .skip Q K w:=fun a hK=>wp_skip (h a hK)
theorem WC.exit {id:Nat} (h:∀ a,Kn N K a → Q (.exit id) a w):WC P N (.exit id) Q K w:=fun a hK=>wp_exit (h a hK)
theorem WC.ret (h:∀ a,Kn N K a → Q .ret a w):WC P N .ret Q K w:=fun a hK=>wp_ret (h a hK)
theorem WC.cond {c:Operand} {x y:Code} {t:Bool} (hc:kev K c = some (.bool t)) (ht:t = true → WC P N x Q K w) (hf:t = false → WC P N y Q K w):WC P N (.cond c x y) Q K w :=
 fun a hK=>wp_cond_split (hK.ev hc) (fun h=>ht h a hK) (fun h=>hf h a hK)
theorem WC.weaken {c:Code} {K'} (hk:kall K' K) (h:WC P N c Q K' w):WC P N c Q K w:=fun a hK=>h a (hK.weaken hk)
theorem WC.loop {c:Code} (I:Nat → Act → World → Prop) (m:Nat) (h0:∀ a,Kn N K a → I m a w)
 (round:∀ m a w,I m a w → c.wp P (Exit.then (fun a' w'=>∃ m',m' < m ∧ I m' a' w') Q) a w):WC P N (.loop c) Q K w:=by
 intro a hK
 classical
 have key:∀ a w,(∃ m,I m a w) → ∃ m,I m a w ∧ ∀ m',I m' a w → m ≤ m':=by
  intro a w ⟨m,hm⟩
  induction m using Nat.strongRecOn with
  | _ m ih =>
   by_cases h:∃ m',m' < m ∧ I m' a w
   ·obtain ⟨m',h1,h2⟩:=h; exact ih m' h1 h2
   ·exact ⟨m,hm,fun m' hm'=>Nat.le_of_not_lt fun hlt=>h ⟨m',hlt,hm'⟩⟩
 let μ:Act → World → Nat:=fun a w=>if h:∃ m,I m a w then Classical.choose (key a w h) else 0
 have hμ:∀ a w,(h:∃ m,I m a w) → I (μ a w) a w ∧ ∀ m',I m' a w → μ a w ≤ m':=by
  intro a w h
  simp only [μ,dif_pos h]
  exact Classical.choose_spec (key a w h)
 refine wp_loop (fun a w=>∃ m,I m a w) μ ⟨m,h0 a hK⟩ fun a w hI=>?_
 obtain ⟨h1,h2⟩:=hμ a w hI
 refine Code.wp_mono ?_ (round _ a w h1)
 intro e a' w' hq
 cases e with
 | normal =>
  obtain ⟨m',hlt,hm'⟩:=hq
  exact ⟨⟨m',hm'⟩,Nat.lt_of_le_of_lt ((hμ a' w' ⟨m',hm'⟩).2 m' hm') hlt⟩
 | _=>exact hq
end
/-! ## Functions -/
def argsK:Nat → List Value → KL
 | _,[]=>[]
 | i,v :: vs=>(i,v) :: argsK (i + 1) vs
theorem argsK_get:∀ (vs:List Value) (i t:Nat) (u:Value),kl (argsK i vs) t = some u → i ≤ t ∧ vs[t - i]? = some u
 | [],_,_,_,h=>by simp [argsK,kl] at h
 | v :: vs,i,t,u,h=>by
  simp only [argsK,kl] at h
  cases hq:Nat.beq i t with
  | true =>
   rw [hq] at h
   have:=Nat.eq_of_beq_eq_true hq
   subst this
   simpa using h
  | false =>
   rw [hq] at h
   obtain ⟨h1,h2⟩:=argsK_get vs (i + 1) t u (by simpa using h)
   refine ⟨by omega,?_⟩
   rw [show t - i = (t - (i + 1)) + 1 by omega]
   simpa using h2
theorem calls_of {f:FuncId} {fn:Func} {c:Code} {vs:List Value} {w:World} {R:Ending → World → Prop}
 (hf:P.funcs[f]? = some fn) (hb:fn.body = some c) (hn:fn.ntmps = N) (h:WC P N c (bodyPost P fn R) (argsK 0 vs) w):Calls P f vs.toArray w R:=by
 refine calls_of_wp hf hb (h _ ⟨rfl,?_,?_⟩)
 ·simp [hn]; omega
 ·intro t v ht
  obtain ⟨_,h2⟩:=argsK_get vs 0 t v ht
  have hlt:t < vs.length:=by
   rcases Nat.lt_or_ge t vs.length with h | h
   ·exact h
   ·simp [h] at h2
  simp at h2
  rw [Array.getElem?_append_left (by simpa using hlt)]
  simpa using h2
def resOK (P:Program) (K:KL) (w:World):List ResultVar → List Value → Prop
 | [],[]=>True
 | .tmp t :: rs,v :: vs=>kl K t = some v ∧ resOK P K w rs vs
 | .cell p ty :: rs,v :: vs=>(∃ b,kl K p = some (.pointer (some ⟨b,0,none⟩)) ∧ (loadVar ty ⟨b,0,none⟩).run P w = .ok v w) ∧ resOK P K w rs vs
 | _,_=>False
def oneOrTuple:List Value → Value
 | [v]=>v
 | vs=>.tuple vs.toArray
def resAt (a:Act):ResultVar → Sem Value
 | .tmp t=>pure (a.tmps.getD t undef)
 | .cell p t=>do loadVar t (← asAddr (a.tmps.getD p undef))
theorem run_mapM_results {K a w} (h:Kn N K a):∀ {rs vs},resOK P K w rs vs → (rs.mapM (resAt a)).run P w = .ok vs w
 | [],[],_=>by simp
 | .tmp t :: rs,v :: vs,⟨h1,h2⟩=>by
  have:=h.get t v h1
  have ih:=run_mapM_results h h2
  simp [resAt,Array.getD_eq_getD_getElem?,this,ih]
 | .cell p ty :: rs,v :: vs,⟨⟨b,h1,h3⟩,h2⟩=>by
  have:=h.get p _ h1
  have ih:=run_mapM_results h h2
  simp [resAt,Array.getD_eq_getD_getElem?,this,asAddr,h3,ih]
theorem post_ret {fn:Func} {rs vs K w R} (hr:fn.results = rs.toArray) (ho:resOK P K w rs vs) (hR:R (.returned (oneOrTuple vs)) w):∀ a,Kn N K a → bodyPost P fn R .ret a w:=by
 intro a hK
 refine bodyPost_ret (v:=oneOrTuple vs) ?_ hK.df hR
 have:=run_mapM_results (P:=P) hK ho
 have hfun:∀ f:ResultVar → Sem Value,(∀ r,f r = resAt a r) → (rs.mapM f).run P w = .ok vs w:=by
  intro f hf; rw [show f = resAt a from funext hf]; exact this
 unfold results
 rw [hr,List.mapM_toArray]
 simp only [Sem.run_bind,Sem.run_map]
 rw [hfun _ (by intro r; cases r <;> rfl)]
 simp only [Result.andThen_ok,Sem.run_pure]
 match vs,ho with
 | [],_=>rfl
 | [v],_=>rfl
 | v :: v' :: vs,_=>simp [oneOrTuple]
end
end Go.Eng
namespace Go.Eng
open Go Go.RowKit
section
variable {P:Program} {N:Nat}
/-! ## Guards, cuts -/
def slotOf (ops:Array Oper) (j:Nat):Option Tmp:=(ops[j]?).bind (·.dst)
theorem Kn.yielded {K a ops j t b} (h:Kn N K a) (hs:slotOf ops j = some t) (hb:kl K t = some (.bool b)):yielded ops a.tmps j = some b:=by
 have:=h.get t _ hb
 unfold slotOf at hs
 simp [Go.yielded,hs,this]
section
variable {ops:Array Oper} {Q:Exit → Act → World → Prop} {o:Oper} {rest l:List Oper} {K:KL} {w:World}
theorem wanted_yes {K a j t b want} (h:Kn N K a) (hg:o.guard = some (j,want)) (hs:slotOf ops j = some t) (hb:kl K t = some (.bool b)) (hw:b = want):Region.wanted o (yielded ops a.tmps) = true:=by
 subst hw; simp [Region.wanted,hg,h.yielded hs hb]
theorem wanted_no {K a j t b want} (h:Kn N K a) (hg:o.guard = some (j,want)) (hs:slotOf ops j = some t) (hb:kl K t = some (.bool b)) (hw:b = !want):Region.wanted o (yielded ops a.tmps) = false:=by
 subst hw; simp [Region.wanted,hg,h.yielded hs hb]
theorem wpList_append {l1 l2:List Oper}:∀ {a w},wpList P ops (Exit.then (fun a' w'=>wpList P ops Q l2 a' w') Q) l1 a w → wpList P ops Q (l1 ++ l2) a w:=by
 induction l1 with
 | nil=>intro a w h; exact h
 | cons o l1 ih =>
  intro a w h
  unfold wpList at h
  show wpList P ops Q (o :: (l1 ++ l2)) a w
  unfold wpList
  split at h
  ·rename_i hw
   rw [if_pos hw]
   refine h.imp (fun h=>?_) (fun h=>h)
   unfold Oper.wp at *
   generalize (execOp a.eval o).run P w = r at *
   cases r with
   | ok n w' =>
    cases n <;> simp only [Oper.upon] at h ⊢ <;>
     first
      | exact ih h
      | exact Calls.mono h (fun e w'' he=>by cases e <;> first | exact ih he | exact he)
      | exact Rows.mono h (fun _ _ he=>ih he)
      | exact h
   | halt x w'=>cases x <;> simp only [Oper.upon] at h ⊢ <;> exact h
  ·rename_i hw
   rw [if_neg hw]
   exact ih h
theorem TL.cut (k:Nat) (K':KL) (R:World → Prop) (h1:TL P N ops (Exit.then (fun a' w'=>Kn N K' a' ∧ R w') Q) (l.take k) K w) (h2:∀ w',R w' → TL P N ops Q (l.drop k) K' w'):TL P N ops Q l K w:=by
 intro a hK
 rw [← List.take_append_drop k l]
 refine wpList_append ?_
 have:=h1 a hK
 revert this
 generalize l.take k = l1
 intro h
 have mono:∀ (l1:List Oper) a w,wpList P ops (Exit.then (fun a' w'=>Kn N K' a' ∧ R w') Q) l1 a w → wpList P ops (Exit.then (fun a' w'=>wpList P ops Q (l.drop k) a' w') Q) l1 a w:=by
  intro l1
  induction l1 with
  | nil=>intro a w h; exact h2 w h.2 a h.1
  | cons o l1 ih =>
   intro a w h
   unfold wpList at h ⊢
   split at h
   ·rename_i hw
    rw [if_pos hw]
    refine h.imp (fun h=>?_) (fun h=>h)
    unfold Oper.wp at *
    generalize (execOp a.eval o).run P w = r at *
    cases r with
    | ok n w' =>
     cases n <;> simp only [Oper.upon] at h ⊢ <;>
      first
       | exact ih _ _ h
       | exact Calls.mono h (fun e w'' he=>by cases e <;> first | exact ih _ _ he | exact he)
       | exact Rows.mono h (fun _ _ he=>ih _ _ he)
       | exact h
    | halt x w'=>cases x <;> simp only [Oper.upon] at h ⊢ <;> exact h
   ·rename_i hw
    rw [if_neg hw]
    exact ih _ _ h
 exact mono l1 a w h
/-! ## Regions whose order is drawn, all of whose operations are quiet -/
def QL (P:Program) (N:Nat) (ops:Array Oper) (w:World) (Qa:Act → Prop) (l:List Oper) (K:KL):Prop :=
 ∀ a,Kn N K a → wpQuiet P ops (fun w'=>Ext w w') Qa l a
def Qui (P:Program) (N:Nat) (K:KL) (o:Oper) (w:World) (v:Value):Prop :=
 ∀ a,Kn N K a → ∀ w',Ext w w' → o.quietAt P a (fun w'=>Ext w w') w' v
theorem Yld.qui {v} (h:Yld P N K o w v):Qui P N K o w v:=by
 intro a hK w' he
 unfold Oper.quietAt
 rw [h a hK w' he]
 exact ⟨rfl,rfl⟩
variable {Qa:Act → Prop}
theorem QL.nil (h:∀ a,Kn N K a → Qa a):QL P N ops w Qa [] K:=fun a hK=>h a hK
theorem QL.yld {v} (hg:o.guard = none) (hd:okDst N o.dst = true) (h:Qui P N K o w v) (k:QL P N ops w Qa rest (kput K o.dst v)):QL P N ops w Qa (o :: rest) K:=by
 intro a hK
 unfold wpQuiet
 rw [if_pos (by simp [Region.wanted,hg])]
 exact ⟨v,fun w' hw'=>h a hK w' hw',k _ (hK.put (okDst.h hd))⟩
theorem wpQuiet_append {C:World → Prop} {l1 l2:List Oper}:∀ {a},wpQuiet P ops C (fun a'=>wpQuiet P ops C Qa l2 a') l1 a → wpQuiet P ops C Qa (l1 ++ l2) a:=by
 induction l1 with
 | nil=>intro a h; exact h
 | cons o l1 ih =>
  intro a h
  unfold wpQuiet at h
  show wpQuiet P ops C Qa (o :: (l1 ++ l2)) a
  unfold wpQuiet
  split at h
  ·rename_i hw
   rw [if_pos hw]
   obtain ⟨v,h1,h2⟩:=h
   exact ⟨v,h1,ih h2⟩
  ·rename_i hw
   rw [if_neg hw]
   exact ih h
theorem wpQuiet_mono {C:World → Prop} {Qa Qb:Act → Prop} (hm:∀ a,Qa a → Qb a):∀ {l1:List Oper} {a},wpQuiet P ops C Qa l1 a → wpQuiet P ops C Qb l1 a:=by
 intro l1
 induction l1 with
 | nil=>intro a h; exact hm _ h
 | cons o l1 ih =>
  intro a h
  unfold wpQuiet at h ⊢
  split at h
  ·rename_i hw
   rw [if_pos hw]
   obtain ⟨v,h1,h2⟩:=h
   exact ⟨v,h1,ih h2⟩
  ·rename_i hw
   rw [if_neg hw]
   exact ih h
theorem QL.cut (k:Nat) (K':KL) (h1:QL P N ops w (fun a'=>Kn N K' a') (l.take k) K) (h2:QL P N ops w Qa (l.drop k) K'):QL P N ops w Qa l K:=by
 intro a hK
 rw [← List.take_append_drop k l]
 exact wpQuiet_append (wpQuiet_mono (fun a' h=>h2 a' h) (h1 a hK))
theorem WC.quiet {id:Nat} (hm:P.follows .mixedOrders = true) (hB:Region.lexB .any l.toArray = true) (h:QL P N l.toArray w (fun a'=>∀ w',Ext w w' → Q .normal a' w') l K):WC P N (.region id l.toArray true) Q K w :=
 fun a hK=>wp_region_quiet (C:=fun w'=>Ext w w') hm hB (Ext.drew w) (by simpa using h a hK)
end
end
end Go.Eng
namespace Go.Eng
open Go Go.RowKit
/-! ## Data in memory -/
abbrev Iv (lo hi:Nat):Nat → Prop:=fun k=>lo ≤ k ∧ k < hi
structure Cod (α:Type) where
 n:Nat
 rep:World → (Nat → Prop) → α → List Value → Prop
 len:∀ {w S x vs},rep w S x vs → vs.length = n
 one:∀ {w S x vs},rep w S x vs → vs.all Value.oneCell' = true
 mono:∀ {w w' S S' x vs},rep w S x vs → (∀ k,S k → S' k) → (∀ k,S k → w'.heap[k]? = w.heap[k]?) → rep w' S' x vs
def cInt (k:IntKind):Cod Int where
 n:=1
 rep:=fun _ _ x vs=>vs = [.int k x]
 len:=fun h=>by rw [h]; rfl
 one:=fun h=>by rw [h]; rfl
 mono:=fun h _ _=>h
def cBool:Cod Bool where
 n:=1
 rep:=fun _ _ x vs=>vs = [.bool x]
 len:=fun h=>by rw [h]; rfl
 one:=fun h=>by rw [h]; rfl
 mono:=fun h _ _=>h
def cStr:Cod ByteArray where
 n:=1
 rep:=fun _ _ x vs=>vs = [.string x]
 len:=fun h=>by rw [h]; rfl
 one:=fun h=>by rw [h]; rfl
 mono:=fun h _ _=>h
def cPair {α β:Type} (c:Cod α) (d:Cod β):Cod (α × β) where
 n:=c.n + d.n
 rep:=fun w S x vs=>∃ us ts,vs = us ++ ts ∧ c.rep w S x.1 us ∧ d.rep w S x.2 ts
 len:=fun ⟨us,ts,e,h1,h2⟩=>by rw [e,List.length_append,c.len h1,d.len h2]
 one:=fun ⟨us,ts,e,h1,h2⟩=>by rw [e,List.all_append,c.one h1,d.one h2]; rfl
 mono:=fun ⟨us,ts,e,h1,h2⟩ a b=>⟨us,ts,e,c.mono h1 a b,d.mono h2 a b⟩
def cMap {α β:Type} (f:β → α) (c:Cod α):Cod β where
 n:=c.n
 rep:=fun w S x vs=>c.rep w S (f x) vs
 len:=fun h=>c.len h
 one:=fun h=>c.one h
 mono:=fun h a b=>c.mono h a b
def slRep {α:Type} (c:Cod α) (w:World) (S:Nat → Prop) (xs:List α) (v:Value):Prop :=
 ∃ a cap,v = .slice a xs.length cap ∧ (xs.length ≤ cap ∧ (a = none → cap = 0)) ∧ cap ≤ 9223372036854775807 ∧
  (0 < xs.length → ∃ b off,a = some ⟨b,off,none⟩ ∧ S b ∧ ∀ i x,xs[i]? = some x → ∃ us,c.rep w S x us ∧ CellsAt w b (off + i * c.n) us)
theorem slRep.mono {α:Type} {c:Cod α} {w w':World} {S S':Nat → Prop} {xs:List α} {v:Value} (h:slRep c w S xs v) (ha:∀ k,S k → S' k) (hk:∀ k,S k → w'.heap[k]? = w.heap[k]?):slRep c w' S' xs v:=by
 obtain ⟨a,cap,h1,h2,h3,h4⟩:=h
 refine ⟨a,cap,h1,h2,h3,fun hl=>?_⟩
 obtain ⟨b,off,h5,h6,h8⟩:=h4 hl
 refine ⟨b,off,h5,ha b h6,fun i x hx=>?_⟩
 obtain ⟨us,h9,h10⟩:=h8 i x hx
 exact ⟨us,c.mono h9 ha hk,h10.block (hk b h6)⟩
def cSl {α:Type} (c:Cod α):Cod (List α) where
 n:=1
 rep:=fun w S xs vs=>∃ v,vs = [v] ∧ slRep c w S xs v
 len:=fun ⟨v,e,_⟩=>by rw [e]; rfl
 one:=fun ⟨v,e,a,cap,h,_⟩=>by rw [e,h]; rfl
 mono:=fun ⟨v,e,h⟩ ha hk=>⟨v,e,h.mono ha hk⟩
theorem slRep.old {α:Type} {c:Cod α} {w w':World} {B lo hi:Nat} {xs:List α} {v:Value} (h:slRep c w (Iv lo hi) xs v) (hB:Below B w w') (hle:hi ≤ B):slRep c w' (Iv lo hi) xs v :=
 h.mono (fun _ h=>h) (fun k h2=>hB.block k (by have:=h2.2; omega))
theorem slRep.upd {α:Type} {c:Cod α} {w w':World} {b lo hi:Nat} {xs:List α} {v:Value} (h:slRep c w (Iv lo hi) xs v) (hu:Upd b w w') (hne:b < lo ∨ hi ≤ b):slRep c w' (Iv lo hi) xs v :=
 h.mono (fun _ h=>h) (fun k h=>hu.block k (by have:=h.1; have:=h.2; omega))
theorem Cod.old {α:Type} (c:Cod α) {w w':World} {B lo hi:Nat} {x:α} {vs:List Value} (h:c.rep w (Iv lo hi) x vs) (hB:Below B w w') (hle:hi ≤ B):c.rep w' (Iv lo hi) x vs :=
 c.mono h (fun _ h=>h) (fun k h2=>hB.block k (by have:=h2.2; omega))
theorem slRep.nil {α:Type} (c:Cod α) (w:World) (S:Nat → Prop):slRep c w S [] (.slice none 0 0):=⟨none,0,rfl,⟨by simp,fun _=>rfl⟩,by simp,fun h=>by simp at h⟩
def getI {α:Type} (xs:List α) (i:Int):Option α:=if 0 ≤ i then xs[i.toNat]? else none
theorem getI_lt {α:Type} {xs:List α} {i:Int} {x:α} (h:getI xs i = some x):0 ≤ i ∧ i < xs.length ∧ xs[i.toNat]? = some x:=by
 unfold getI at h
 split at h
 ·rename_i h0
  obtain ⟨h1,_⟩:=List.getElem?_eq_some_iff.1 h
  exact ⟨h0,by omega,h⟩
 ·cases h
section
variable {P:Program} {N:Nat}
def YE (P:Program) (N:Nat) (K:KL) (o:Oper) (w:World) (Ψ:Value → Prop):Prop:=∃ v,Yld P N K o w v ∧ Ψ v
section
variable {ops:Array Oper} {Q:Exit → Act → World → Prop} {o:Oper} {rest l:List Oper} {K:KL} {w:World} {Qa:Act → Prop} {Ψ:Value → Prop}
theorem yld_indexAddr {t x i e b off n c k m sz} (ho:o.op = .indexAddr t x i) (hu:P.underlying t = some (.slice e)) (hc:cellsN P e = some sz) (hx:kev K x = some (.slice (some ⟨b,off,none⟩) n c))
 (hi:kev K i = some (.int k m)) (h0:0 ≤ m) (h1:m < n):Yld P N K o w (.pointer (some ⟨b,off + m.toNat * sz,none⟩)):=by
 intro a hK w' _
 obtain ⟨i,hi2,hs⟩:=Option.map_eq_some_iff.1 hc
 simp [execOp,ho,hK.ev hx,hK.ev hi,Instr.indexAt,asIntOf,run_underlying hu,h0,h1,sizeOf,typeInfo,hi2,hs,addr_add]
theorem ye_index {α:Type} {c:Cod α} {xs:List α} {y:α} {t x i e v k m S} (ho:o.op = .indexAddr t x i) (hu:P.underlying t = some (.slice e)) (hc:cellsN P e = some c.n) (hx:kev K x = some v)
 (hi2:kev K i = some (.int k m)) (hs:slRep c w S xs v) (hg:getI xs m = some y) :
 YE P N K o w (fun u=>∃ b off us,u = .pointer (some ⟨b,off,none⟩) ∧ S b ∧ c.rep w S y us ∧ CellsAt w b off us):=by
 obtain ⟨a,cap,rfl,h2,h3,h4⟩:=hs
 obtain ⟨g0,g1,g2⟩:=getI_lt hg
 obtain ⟨b,off,rfl,h5,h7⟩:=h4 (by omega)
 obtain ⟨us,h8,h9⟩:=h7 _ _ g2
 exact ⟨_,yld_indexAddr ho hu hc hx hi2 g0 g1,b,_,us,rfl,h5,h8,h9⟩
theorem ye_len {α:Type} {c:Cod α} {xs:List α} {t x e v S} (ho:o.op = .call { callee:=.builtin .len,args:=#[x],argTypes:=#[t] }) (hu:P.underlying t = some (.slice e)) (hx:kev K x = some v) (hs:slRep c w S xs v) :
 Yld P N K o w (.int .i64 xs.length):=by
 obtain ⟨a,cap,rfl,h2,h3,h4⟩:=hs
 exact yld_len ho hu hx
end
section
variable {o:Oper} {K:KL} {w:World}
end
/-! ## What comes next -/
def NX (N:Nat) (Q:Exit → Act → World → Prop) (e:Exit) (K:KL) (w:World):Prop:=∀ a,Kn N K a → Q e a w
section
variable {Q:Exit → Act → World → Prop} {K:KL} {w:World} {f:Act → World → Prop} {ops:Array Oper}
theorem TL.done (h:NX N Q .normal K w):TL P N ops Q [] K w:=TL.nil h
theorem QL.done (h:∀ w',Ext w w' → NX N Q .normal K w'):QL P N ops w (fun a'=>∀ w',Ext w w' → Q .normal a' w') [] K:=QL.nil fun a hK w' he=>h w' he a hK
theorem WC.skip' (h:NX N Q .normal K w):WC P N .skip Q K w:=WC.skip h
theorem WC.exit' {id:Nat} (h:NX N Q (.exit id) K w):WC P N (.exit id) Q K w:=WC.exit h
theorem WC.ret' (h:NX N Q .ret K w):WC P N .ret Q K w:=WC.ret h
theorem NX.seq {y:Code} {Q':Exit → Act → World → Prop} (h:WC P N y Q' K w):NX N (Exit.then (fun a' w'=>y.wp P Q' a' w') Q) .normal K w:=h
theorem NX.then_n (h:∀ a,Kn N K a → f a w):NX N (Exit.then f Q) .normal K w:=h
theorem NX.then_e {id:Nat} (h:NX N Q (.exit id) K w):NX N (Exit.then f Q) (.exit id) K w:=h
theorem NX.then_r (h:NX N Q .ret K w):NX N (Exit.then f Q) .ret K w:=h
theorem NX.blk_n {id:Nat} (h:NX N Q .normal K w):NX N (Exit.inBlock id Q) .normal K w:=h
theorem NX.blk_r {id:Nat} (h:NX N Q .ret K w):NX N (Exit.inBlock id Q) .ret K w:=h
theorem NX.blk_hit {id:Nat} (h:NX N Q .normal K w):NX N (Exit.inBlock id Q) (.exit id) K w:=fun a hK=>by
 show (if id = id then Q .normal a w else Q (.exit id) a w); rw [if_pos rfl]; exact h a hK
theorem NX.blk_miss {id id':Nat} (hne:Nat.beq id' id = false) (h:NX N Q (.exit id') K w):NX N (Exit.inBlock id Q) (.exit id') K w:=fun a hK=>by
 have hn:¬ id' = id:=fun e=>by subst e; simp at hne
 show (if id' = id then Q .normal a w else Q (.exit id') a w); rw [if_neg hn]; exact h a hK
theorem NX.weaken {K'} {e:Exit} (hk:kall K' K) (h:NX N Q e K' w):NX N Q e K w:=fun a hK=>h a (hK.weaken hk)
theorem NX.end {fn:Func} {rs vs R} (hr:fn.results = rs.toArray) (ho:resOK P K w rs vs) (hR:R (.returned (oneOrTuple vs)) w):NX N (bodyPost P fn R) .ret K w:=post_ret hr ho hR
theorem NX.end_n {fn:Func} {rs vs R} (hr:fn.results = rs.toArray) (ho:resOK P K w rs vs) (hR:R (.returned (oneOrTuple vs)) w):NX N (bodyPost P fn R) .normal K w:=post_ret (P:=P) hr ho hR
end
end
theorem slRep.one {α:Type} {c:Cod α} {w:World} {S:Nat → Prop} {xs:List α} {v:Value} (h:slRep c w S xs v):v.oneCell' = true:=by
 obtain ⟨a,cap,rfl,_⟩:=h; rfl
theorem slRep.cells {α:Type} {c:Cod α} {w:World} {S:Nat → Prop} {xs:List α} {v:Value} (h:slRep c w S xs v):v.cells = #[v]:=by
 obtain ⟨a,cap,rfl,_⟩:=h; rfl
theorem nzero {α:Type} {b:Int} {a:Option α} {r:α} (h:(bif b == 0 then none else a) = some r):b ≠ 0 ∧ a = some r:=by
 by_cases hb:b = 0
 ·subst hb; cases h
 ·refine ⟨hb,?_⟩
  have:(b == 0) = false:=by simpa using hb
  rw [this] at h; exact h
theorem bsome {α β:Type} {o:Option α} {f:α → Option β} {r:β} (h:Option.bind o f = some r):∃ x,o = some x ∧ f x = some r:=by
 cases o with
 | none=>cases h
 | some x=>exact ⟨x,rfl,h⟩
theorem bif_t {α:Type} {c:Bool} {a b:Option α} {r:α} (h:c = true) (hF:(bif c then a else b) = some r):a = some r:=by subst h; exact hF
theorem bif_f {α:Type} {c:Bool} {a b:Option α} {r:α} (h:c = false) (hF:(bif c then a else b) = some r):b = some r:=by subst h; exact hF
end Go.Eng
namespace Go.Eng
open Go Go.RowKit
class Flat {α:Type} (c:Cod α):Prop where
 any:∀ {w w' S S' x vs},c.rep w S x vs → c.rep w' S' x vs
instance (k:IntKind):Flat (cInt k):=⟨fun h=>h⟩
instance:Flat cBool:=⟨fun h=>h⟩
instance:Flat cStr:=⟨fun h=>h⟩
instance {α β:Type} (c:Cod α) (d:Cod β) [Flat c] [Flat d]:Flat (cPair c d):=⟨fun ⟨us,ts,e,h1,h2⟩=>⟨us,ts,e,Flat.any h1,Flat.any h2⟩⟩
instance {α β:Type} (f:β → α) (c:Cod α) [h:Flat c]:Flat (cMap f c):=⟨fun k=>h.any k⟩
def elemCells (cs:List Value) (n i:Nat):List Value:=(cs.drop (i * n)).take n
theorem elemCells_get {cs:List Value} {n i j:Nat} (hj:j < n):(elemCells cs n i)[j]? = cs[i * n + j]?:=by
 unfold elemCells
 rw [List.getElem?_take,if_pos hj,List.getElem?_drop]
def ownR {α:Type} (c:Cod α) (w:World) (B:Nat) (S:Nat → Prop) (e:TypeId) (xs:List α) (v:Value):Prop :=
 ∃ cs,w.ownsRow B e c.n v xs.length cs ∧ ∀ i x,xs[i]? = some x → c.rep w S x (elemCells cs c.n i)
section
variable {α:Type} {c:Cod α} {w w':World} {B:Nat} {S S':Nat → Prop} {e:TypeId} {xs:List α} {v:Value}
theorem ownR.blk (h:ownR c w B S e xs v):∀ g,v.ownBlock = some g → B ≤ g ∧ g < w.heap.size:=by
 obtain ⟨cs,h1,_⟩:=h; exact h1.lt
theorem ownR.one (h:ownR c w B S e xs v):v.oneCell' = true:=by
 obtain ⟨cs,⟨_,⟨rfl,_⟩ | ⟨g,cap,cur,rfl,_⟩⟩,_⟩:=h <;> rfl
theorem ownR.cells (h:ownR c w B S e xs v):v.cells = #[v]:=by
 obtain ⟨cs,⟨_,⟨rfl,_⟩ | ⟨g,cap,cur,rfl,_⟩⟩,_⟩:=h <;> rfl
theorem ownR.base (h:ownR c w B S e xs v) {B':Nat} (hB:B' ≤ B):ownR c w B' S e xs v:=by
 obtain ⟨cs,⟨h1,h2⟩,h3⟩:=h
 refine ⟨cs,⟨h1,?_⟩,h3⟩
 rcases h2 with h2 | ⟨g,cap,cur,hv,hb,rest⟩
 ·exact .inl h2
 ·exact .inr ⟨g,cap,cur,hv,by omega,rest⟩
theorem ownR.nil (c:Cod α) (w:World) (B:Nat) (S:Nat → Prop) (e:TypeId):ownR c w B S e [] (.slice none 0 0) :=
 ⟨[],World.ownsRow_nil w B e c.n,fun i x h=>by simp at h⟩
theorem ownR.keep (h:ownR c w B S e xs v) (hg:∀ g,v.ownBlock = some g → w'.heap[g]? = w.heap[g]?) (hS:∀ k,S k → S' k) (hk:∀ k,S k → w'.heap[k]? = w.heap[k]?):ownR c w' B S' e xs v:=by
 obtain ⟨cs,⟨h1,h2⟩,h3⟩:=h
 refine ⟨cs,⟨h1,?_⟩,fun i x hx=>c.mono (h3 i x hx) hS hk⟩
 rcases h2 with h2 | ⟨g,cap,cur,rfl,hb,hh,rest⟩
 ·exact .inl h2
 ·exact .inr ⟨g,cap,cur,rfl,hb,(hg g rfl).trans hh,rest⟩
theorem ownR.ext [Flat c] (h:ownR c w B (Iv 0 0) e xs v) (he:Ext w w'):ownR c w' B (Iv 0 0) e xs v :=
 h.keep (fun g hg=>he.block g (h.blk g hg).2) (fun _ h=>h) (fun k h=>absurd h.2 (Nat.not_lt_zero k))
theorem ownR.upd [Flat c] {b:Nat} (h:ownR c w B (Iv 0 0) e xs v) (hu:Upd b w w') (hne:∀ g,v.ownBlock = some g → g ≠ b):ownR c w' B (Iv 0 0) e xs v :=
 h.keep (fun g hg=>hu.block g (hne g hg)) (fun _ h=>h) (fun k h=>absurd h.2 (Nat.not_lt_zero k))
theorem ownR.sl (h:ownR c w B S e xs v) (hS:∀ k,S k → S' k) (hB:∀ k,B ≤ k → k < w.heap.size → S' k):slRep c w S' xs v:=by
 obtain ⟨cs,h0,h3⟩:=h
 have h1:=h0
 obtain ⟨hl,⟨rfl,hn⟩ | ⟨g,cap,cur,rfl,hb,hh,h5,h6,h7,h8⟩⟩:=h1
 ·have:xs = []:=List.eq_nil_of_length_eq_zero hn
  subst this; exact slRep.nil _ _ _
 ·have hlt:g < w.heap.size:=(Array.getElem?_eq_some_iff.1 hh).1
  refine ⟨some ⟨g,0,none⟩,cap,rfl,⟨h5,fun h=>by cases h⟩,by simpa [maxLen] using h6,fun hpos=>⟨g,0,rfl,hB g hb hlt,fun i x hx=>⟨_,c.mono (h3 i x hx) hS (fun _ _=>rfl),fun j u hu=>?_⟩⟩⟩
  have hjn:j < c.n:=by
   have:=(List.getElem?_eq_some_iff.1 hu).1
   simp [elemCells] at this; omega
  rw [elemCells_get hjn] at hu
  have:=h0.cells (g:=g) rfl _ _ hu
  rw [addr_add] at this
  rw [show 0 + i * c.n + j = 0 + (i * c.n + j) by omega]; exact ⟨this,by simp [World.frozen?,hh]⟩
theorem ownR.slf [Flat c] {lo hi:Nat} (h:ownR c w B (Iv 0 0) e xs v) (h1:lo ≤ B) (h2:w.heap.size ≤ hi):slRep c w (Iv lo hi) xs v :=
 h.sl (fun k h=>absurd h.2 (Nat.not_lt_zero k)) (fun k h3 h4=>⟨by omega,by omega⟩)
end
theorem set_get {α:Type} {xs:List α} {i j:Nat} {y x:α} (h:(xs.set i y)[j]? = some x):(i = j ∧ x = y) ∨ (i ≠ j ∧ xs[j]? = some x):=by
 rw [List.getElem?_set] at h
 split at h
 ·rename_i e; subst e
  split at h
  ·injection h with h; exact .inl ⟨rfl,h.symm⟩
  ·cases h
 ·rename_i e; exact .inr ⟨e,h⟩
def splice (cs:List Value) (p:Nat) (us:List Value):List Value:=cs.take p ++ us ++ cs.drop (p + us.length)
theorem splice_len {cs us:List Value} {p:Nat} (h:p + us.length ≤ cs.length):(splice cs p us).length = cs.length:=by
 simp [splice]; omega
theorem splice_get {cs us:List Value} {p k:Nat} (h:p + us.length ≤ cs.length):(splice cs p us)[k]? = if p ≤ k ∧ k < p + us.length then us[k - p]? else cs[k]?:=by
 have hp:(cs.take p).length = p:=by simp; omega
 unfold splice
 by_cases h1:k < p
 ·rw [if_neg (by omega),List.append_assoc,List.getElem?_append_left (by omega),List.getElem?_take,if_pos h1]
 ·by_cases h2:k < p + us.length
  ·rw [if_pos (by omega),List.append_assoc,List.getElem?_append_right (by omega),hp,List.getElem?_append_left (by omega)]
  ·rw [if_neg (by omega),List.getElem?_append_right (by simp; omega),List.getElem?_drop]
   congr 1
   simp; omega
section
variable {P:Program} {N:Nat} {α:Type} {c:Cod α} {w:World} {B:Nat} {S:Nat → Prop} {e:TypeId} {xs:List α} {v:Value} {o:Oper} {K:KL}
theorem yld_len_own {t x} (ho:o.op = .call { callee:=.builtin .len,args:=#[x],argTypes:=#[t] }) (hu:P.underlying t = some (.slice e)) (hx:kev K x = some v) (hs:ownR c w B S e xs v) :
 Yld P N K o w (.int .i64 xs.length):=by
 obtain ⟨cs,⟨_,⟨rfl,hn⟩ | ⟨g,cap,cur,rfl,_⟩⟩,_⟩:=hs
 ·have:=yld_len (N:=N) (w:=w) ho hu hx; rw [hn]; exact this
 ·exact yld_len ho hu hx
theorem ye_index_own {y:α} {t x i k m} (ho:o.op = .indexAddr t x i) (hu:P.underlying t = some (.slice e)) (hc:cellsN P e = some c.n) (hx:kev K x = some v)
 (hi2:kev K i = some (.int k m)) (hs:ownR c w B S e xs v) (hg:getI xs m = some y) :
 YE P N K o w (fun u=>∃ g us,u = .pointer (some ⟨g,0 + m.toNat * c.n,none⟩) ∧ v.ownBlock = some g ∧ c.rep w S y us ∧ CellsAt w g (0 + m.toNat * c.n) us):=by
 obtain ⟨cs,h0,h3⟩:=hs
 obtain ⟨g0,g1,g2⟩:=getI_lt hg
 have h1:=h0
 obtain ⟨hl,⟨rfl,hn⟩ | ⟨g,cap,cur,rfl,hb,hh,h5,h6,h7,h8⟩⟩:=h1
 ·omega
 ·refine ⟨_,yld_indexAddr ho hu hc hx hi2 g0 g1,g,_,rfl,rfl,h3 _ _ g2,fun j u hu=>?_⟩
  have hjn:j < c.n:=by
   have:=(List.getElem?_eq_some_iff.1 hu).1
   simp [elemCells] at this; omega
  rw [elemCells_get hjn] at hu
  have:=h0.cells (g:=g) rfl _ _ hu
  rw [addr_add] at this
  rw [show 0 + m.toNat * c.n + j = 0 + (m.toNat * c.n + j) by omega]; exact ⟨this,by simp [World.frozen?,hh]⟩
theorem eff_store_own {t x y u g m us us' y0 y'} (j off:Nat) (ho:o.op = .store t x y) (hx:kev K x = some (.pointer (some ⟨g,off,none⟩))) (hy:kev K y = some u) (hs:ownR c w B S e xs v)
 (hg:v.ownBlock = some g) (hm:getI xs m = some y0) (hoff:off = 0 + m.toNat * c.n + j) (hn:cellsN P t = some u.cells.toList.length) (h1:u.cells.toList.all Value.oneCell' = true) (hrep:c.rep w S y0 us)
 (hcl:CellsAt w g (0 + m.toNat * c.n) us)
 (hus:us' = splice us j u.cells.toList) (hfit:Nat.ble (j + u.cells.toList.length) us.length = true) (hrep':c.rep w S y' us') (hS:∀ k,S k → k ≠ g) :
 Eff P N K o w (fun _ w'=>Upd g w w' ∧ ownR c w' B S e (xs.set m.toNat y') v):=by
 obtain ⟨cs,h0,h3⟩:=hs
 obtain ⟨g0,g1,g2⟩:=getI_lt hm
 have h1':=h0
 obtain ⟨hl,⟨rfl,_⟩ | ⟨g',cap,cur,rfl,hb,hh,h5,h6,h7,h8⟩⟩:=h1'
 ·simp [Value.ownBlock] at hg
 simp [Value.ownBlock] at hg
 subst hg
 have hfit:=Nat.le_of_ble_eq_true hfit
 have husl:us.length = c.n:=c.len hrep
 have hmn:(m.toNat + 1) * c.n ≤ xs.length * c.n:=Nat.mul_le_mul_right _ (by omega)
 rw [Nat.add_mul] at hmn
 have hcap:xs.length * c.n ≤ cap * c.n:=Nat.mul_le_mul_right _ h5
 obtain ⟨ti,hi,hsz⟩:=Option.map_eq_some_iff.1 hn
 have hst:=run_storeCells_at P g' off e u.cells.toList 0 cur w hh (by rw [h7]; omega) (List.all_eq_true.1 h1)
 simp only [Nat.add_zero] at hst
 intro a hK Kt Q hk
 have hr:(execOp a.eval o).run P w = .ok .skip (w.setRow g' (splice cur.toList off u.cells.toList).toArray):=by
  simp [execOp,ho,hK.ev hx,hK.ev hy,Instr.storeAt,Instr.sureAddr,storeVar,Sem.run_bind,sizeOf,typeInfo,hi,hsz,splice] at hst ⊢
  rw [hst]
  simp
 unfold Oper.wp
 rw [hr]
 clear hr hst h1 hy hsz hn ho
 revert hus hfit hk
 generalize u.cells.toList = us2
 intro hus hfit hk
 refine hk _ _ ⟨Upd.setRow _ _ _,splice cs off us2,⟨?_,.inr ⟨g',cap,_,by simp,hb,setRow_heap w g' cur _ e _ hh,by simpa using h5,h6,?_,?_⟩⟩,?_⟩
 ·rw [splice_len (by rw [hl]; omega),hl]; simp
 ·have:=splice_len (cs:=cur.toList) (us:=us2) (p:=off) (by simp [h7]; omega)
  simp only [List.size_toArray,this]; simpa using h7
 ·apply List.ext_getElem?
  intro k
  rw [List.length_set]
  simp only [List.toList_toArray]
  rw [List.getElem?_take,splice_get (cs:=cs) (by rw [hl]; omega)]
  split
  ·rename_i hk2
   rw [splice_get (by simp [h7]; omega)]
   split
   ·rfl
   ·rw [← h8,List.getElem?_take,if_pos hk2]
  ·rename_i hk2
   rw [if_neg (by omega)]
   symm; rw [List.getElem?_eq_none]; omega
 ·intro i x hx2
  rcases set_get hx2 with ⟨rfl,rfl⟩ | ⟨hne,hx3⟩
  ·have e1:elemCells (splice cs off us2) c.n m.toNat = us':=by
    apply List.ext_getElem?
    intro q
    by_cases hq:q < c.n
    ·rw [elemCells_get hq,splice_get (by rw [hl]; omega),hus,splice_get (by omega)]
     have hcq:cs[m.toNat * c.n + q]? = us[q]?:=by
      have a1:us[q]? = some (us[q]'(by omega)):=List.getElem?_eq_getElem _
      have a2:=(hcl q _ a1).1
      have hlt2:m.toNat * c.n + q < cs.length:=by rw [hl]; omega
      have a3:=h0.cells (g:=g') rfl (m.toNat * c.n + q) _ (List.getElem?_eq_getElem hlt2)
      rw [addr_add] at a3
      rw [show 0 + m.toNat * c.n + q = 0 + (m.toNat * c.n + q) by omega,a3] at a2
      rw [a1,List.getElem?_eq_getElem hlt2]; exact a2
     split
     ·rename_i hc2
      rw [if_pos (by omega)]; congr 1; omega
     ·rename_i hc2
      rw [if_neg (by omega)]; exact hcq
    ·rw [List.getElem?_eq_none (by simp [elemCells]; omega),List.getElem?_eq_none]
     rw [hus,splice_len (by omega)]; omega
   rw [e1]
   exact c.mono hrep' (fun _ h=>h) (fun k hk3=>setRow_other _ _ _ _ (hS k hk3))
  ·have e1:elemCells (splice cs off us2) c.n i = elemCells cs c.n i:=by
    have hilt:i < xs.length:=(List.getElem?_eq_some_iff.1 hx3).1
    apply List.ext_getElem?
    intro q
    by_cases hq:q < c.n
    ·rw [elemCells_get hq,elemCells_get hq,splice_get (by rw [hl]; omega)]
     rw [if_neg]
     rcases Nat.lt_or_gt_of_ne hne with h | h
     ·have:(m.toNat + 1) * c.n ≤ i * c.n:=Nat.mul_le_mul_right _ h
      rw [Nat.add_mul] at this; omega
     ·have:(i + 1) * c.n ≤ m.toNat * c.n:=Nat.mul_le_mul_right _ h
      rw [Nat.add_mul] at this; omega
    ·rw [List.getElem?_eq_none (by simp [elemCells]; omega),List.getElem?_eq_none (by simp [elemCells]; omega)]
   rw [e1]
   exact c.mono (h3 i x hx3) (fun _ h=>h) (fun k hk3=>setRow_other _ _ _ _ (hS k hk3))
/-! ### make -/
def infoN (P:Program) (t:Nat):Option (List Value × Nat × Nat):=(P.info? t).bind fun i=>i.zero.map fun z=>(z.cells.toList,i.size,i.bytes)
theorem elemCells_made {zs:List Value} {k i:Nat} (hi:i < k) (hz:0 < zs.length):elemCells (madeCells zs.toArray (k * zs.length)).toList zs.length i = zs:=by
 apply List.ext_getElem?
 intro q
 by_cases hq:q < zs.length
 ·rw [elemCells_get hq]
  have:(i + 1) * zs.length ≤ k * zs.length:=Nat.mul_le_mul_right _ hi
  rw [Nat.add_mul] at this
  simp only [madeCells,Array.toList_map,Array.toList_range,List.getElem?_map]
  rw [List.getElem?_range (by omega)]
  simp [Nat.mul_add_mod_self_right,Nat.mod_eq_of_lt hq,hq]
 ·rw [List.getElem?_eq_none (by simp [elemCells]; omega),List.getElem?_eq_none (by omega)]
end
end Go.Eng
namespace Go.Eng
open Go Go.RowKit
/-! ## append, literals -/
def appN {α:Type} (xs ys:List α) (bytes:Nat):Option (List α):=if (xs.length + ys.length) * bytes ≤ 140737488355328 ∧ xs.length + ys.length ≤ 9223372036854775807 then some (xs ++ ys) else none
def catCells:List (List Value) → List Value
 | []=>[]
 | us :: uss=>us ++ catCells uss
theorem catCells_len {n:Nat}:∀ {uss:List (List Value)},(∀ us ∈ uss,us.length = n) → (catCells uss).length = uss.length * n
 | [],_=>by simp [catCells]
 | us :: uss,h=>by
  simp only [catCells,List.length_append,List.length_cons,Nat.add_mul]
  rw [h us (List.mem_cons_self ..),catCells_len (fun x hx=>h x (List.mem_cons_of_mem _ hx))]
  omega
theorem catCells_get {n:Nat}:∀ {uss:List (List Value)} {i q:Nat} {us:List Value},(∀ us ∈ uss,us.length = n) → uss[i]? = some us → q < n → (catCells uss)[i * n + q]? = us[q]?
 | [],i,q,us,_,h,_=>by simp at h
 | u0 :: uss,0,q,us,hl,h,hq=>by
  simp at h; subst h
  simp only [catCells]
  rw [List.getElem?_append_left (by rw [hl u0 (List.mem_cons_self ..)]; omega)]
  congr 1; omega
 | u0 :: uss,i + 1,q,us,hl,h,hq=>by
  have hl0:=hl u0 (List.mem_cons_self ..)
  simp only [catCells]
  rw [List.getElem?_append_right (by rw [hl0,Nat.add_mul]; omega)]
  have:=catCells_get (uss:=uss) (i:=i) (q:=q) (fun x hx=>hl x (List.mem_cons_of_mem _ hx)) (by simpa using h) hq
  rw [← this]
  congr 1
  rw [hl0,Nat.add_mul]; omega
theorem catCells_elem {n:Nat} {uss:List (List Value)} {i:Nat} {us:List Value} (hl:∀ us ∈ uss,us.length = n) (h:uss[i]? = some us):elemCells (catCells uss) n i = us:=by
 have hus:=hl us (List.mem_of_getElem? h)
 apply List.ext_getElem?
 intro q
 by_cases hq:q < n
 ·rw [elemCells_get hq,catCells_get hl h hq]
 ·rw [List.getElem?_eq_none (by simp [elemCells]; omega),List.getElem?_eq_none (by omega)]
theorem slRep.all' {α:Type} {c:Cod α} {w:World} {S:Nat → Prop} {xs:List α} {v:Value} (h:slRep c w S xs v) (hn:0 < c.n) :
 ∃ uss:List (List Value),uss.length = xs.length ∧ (∀ us ∈ uss,us.length = c.n) ∧ (∀ (i:Nat) (x:α) (us:List Value),xs[i]? = some x → uss[i]? = some us → c.rep w S x us) ∧
  ∃ (a:Option Addr) (cap:Nat),v = .slice a xs.length cap ∧ (a = none → cap = 0) ∧ (xs.length = 0 ∨ ∃ b off,a = some ⟨b,off,none⟩ ∧ S b ∧ ∀ j u,(catCells uss)[j]? = some u → w.cell? ⟨b,off + j,none⟩ = some u):=by
 obtain ⟨a,cap,rfl,h2,h3,h4⟩:=h
 by_cases hl:0 < xs.length
 ·obtain ⟨b,off,rfl,hb,h5⟩:=h4 hl
  have hch:∀ i,i < xs.length → ∃ us,∀ x,xs[i]? = some x → c.rep w S x us ∧ CellsAt w b (off + i * c.n) us:=by
   intro i hi
   obtain ⟨us,h6⟩:=h5 i _ (List.getElem?_eq_getElem hi)
   refine ⟨us,fun x hx=>?_⟩
   have:x = xs[i]:=by rw [List.getElem?_eq_getElem hi] at hx; exact (Option.some.inj hx).symm
   subst this; exact h6
  obtain ⟨f,hf⟩:=Go.Deep.choose_lt hch
  have hlen:∀ us ∈ (List.range xs.length).map f,us.length = c.n:=by
   intro us hus
   obtain ⟨i,hi,rfl⟩:=List.mem_map.1 hus
   exact c.len (hf i (List.mem_range.1 hi) _ (List.getElem?_eq_getElem (List.mem_range.1 hi))).1
  refine ⟨(List.range xs.length).map f,by simp,hlen,?_,some ⟨b,off,none⟩,cap,rfl,h2.2,.inr ⟨b,off,rfl,hb,?_⟩⟩
  ·intro i x us hx hus
   have hi:i < xs.length:=(List.getElem?_eq_some_iff.1 hx).1
   simp [hi] at hus; subst hus
   exact (hf i hi x hx).1
  ·intro j u hu
   have hj:j < xs.length * c.n:=by
    have:=(List.getElem?_eq_some_iff.1 hu).1
    rw [catCells_len hlen] at this; simpa using this
   have hi:j / c.n < xs.length:=Nat.div_lt_of_lt_mul (by rw [Nat.mul_comm]; exact hj)
   have hd:j / c.n * c.n + j % c.n = j:=by rw [Nat.mul_comm]; exact Nat.div_add_mod j c.n
   have hg:=catCells_get (uss:=(List.range xs.length).map f) (i:=j / c.n) (q:=j % c.n) (us:=f (j / c.n)) hlen (by simp [hi]) (Nat.mod_lt _ hn)
   rw [hd,hu] at hg
   have:=(hf _ hi _ (List.getElem?_eq_getElem hi)).2 (j % c.n) u hg.symm
   rw [show off + j / c.n * c.n + j % c.n = off + j by omega] at this; exact this.1
 ·refine ⟨[],by simp; omega,by simp,fun i x us hx hus=>by simp at hus,a,cap,rfl,h2.2,.inl (by omega)⟩
theorem all_cat {P:Value → Bool}:∀ {uss:List (List Value)},(∀ us ∈ uss,us.all P = true) → ∀ u ∈ catCells uss,P u = true
 | [],_=>by simp [catCells]
 | us :: uss,h=>by
  intro u hu
  simp only [catCells,List.mem_append] at hu
  rcases hu with hu | hu
  ·exact List.all_eq_true.1 (h us (List.mem_cons_self ..)) u hu
  ·exact all_cat (fun x hx=>h x (List.mem_cons_of_mem _ hx)) u hu
section
variable {P:Program} {N:Nat} {α:Type} {c:Cod α} {w:World} {B:Nat} {S S' S2:Nat → Prop} {e:TypeId} {xs ys zs:List α} {v:Value} {o:Oper} {K:KL}
def Grew (w w':World) (v v':Value):Prop:=w.grownBy w' v.ownBlock ∧ ∀ g,v'.ownBlock = some g → v.ownBlock = some g ∨ w.heap.size ≤ g
theorem eff_append {t x y u zc sz by'} (ho:o.op = .call { callee:=.builtin .append,args:=#[x,y],argTypes:=#[t,t] }) (hu:P.underlying t = some (.slice e)) (hi:infoN P e = some (zc,sz,by')) (hsz:sz = c.n) (hzc:zc.length = sz)
 (hpos:Nat.blt 0 c.n = true) (hx:kev K x = some v) (hy:kev K y = some u) (hs:ownR c w B S e xs v) (hb:B ≤ w.heap.size) (hr:slRep c w S2 ys u) (ha:appN xs ys by' = some zs)
 (hS:∀ k,S k → S' k) (hS2:∀ x us,c.rep w S2 x us → c.rep w S' x us) (hS3:∀ k,S' k → k < w.heap.size ∧ v.ownBlock ≠ some k) :
 Eff P N K o w (fun v' w'=>ownR c w' B S' e zs v' ∧ Grew w w' v v'):=by
 have hp:0 < c.n:=by have h:=hpos; simp [Nat.blt] at h; omega
 obtain ⟨cs,h0,h3⟩:=hs
 obtain ⟨uss,hul,hun,hur,a,cap,rfl,hnone,hcase⟩:=slRep.all' hr hp
 unfold infoN at hi
 obtain ⟨i,hi1,hi2⟩:=Option.bind_eq_some_iff.1 hi
 obtain ⟨z,hz1,hz2⟩:=Option.map_eq_some_iff.1 hi2
 simp only [Prod.mk.injEq] at hz2
 obtain ⟨e1,e2,e3⟩:=hz2
 unfold appN at ha
 split at ha
 case isFalse=>cases ha
 rename_i hbound
 injection ha with ha; subst ha
 intro a' hK Kt Q hk
 have hcl:(catCells uss).length = ys.length * c.n:=by rw [catCells_len hun,hul]
 have elems:∀ (w':World),w.grownBy w' v.ownBlock → ∀ q x,(xs ++ ys)[q]? = some x → c.rep w' S' x (elemCells (cs ++ catCells uss) c.n q):=by
  intro w' hgr q x hx2
  have keep:∀ k,S' k → w'.heap[k]? = w.heap[k]?:=fun k hk=>hgr.block k (hS3 k hk).1 (fun e=>(hS3 k hk).2 e.symm)
  by_cases hq:q < xs.length
  ·rw [List.getElem?_append_left hq] at hx2
   have e4:elemCells (cs ++ catCells uss) c.n q = elemCells cs c.n q:=by
    apply List.ext_getElem?
    intro j
    by_cases hj:j < c.n
    ·rw [elemCells_get hj,elemCells_get hj,List.getElem?_append_left]
     have:(q + 1) * c.n ≤ xs.length * c.n:=Nat.mul_le_mul_right _ hq
     rw [Nat.add_mul] at this; rw [h0.1]; omega
    ·rw [List.getElem?_eq_none (by simp [elemCells]; omega),List.getElem?_eq_none (by simp [elemCells]; omega)]
   rw [e4]; exact c.mono (h3 q x hx2) hS (fun k hk=>keep k (hS k hk))
  ·rw [List.getElem?_append_right (by omega)] at hx2
   have hq2:q - xs.length < uss.length:=by rw [hul]; exact (List.getElem?_eq_some_iff.1 hx2).1
   have e4:elemCells (cs ++ catCells uss) c.n q = uss[q - xs.length]:=by
    have:=catCells_elem (i:=q - xs.length) hun (List.getElem?_eq_getElem hq2)
    rw [← this]
    apply List.ext_getElem?
    intro j
    by_cases hj:j < c.n
    ·rw [elemCells_get hj,elemCells_get hj]
     have h5:xs.length * c.n ≤ q * c.n:=Nat.mul_le_mul_right _ (by omega)
     rw [List.getElem?_append_right (by rw [h0.1]; omega)]
     congr 1
     rw [h0.1,Nat.sub_mul]; omega
    ·rw [List.getElem?_eq_none (by simp [elemCells]; omega),List.getElem?_eq_none (by simp [elemCells]; omega)]
   rw [e4]; exact c.mono (hS2 _ _ (hur _ x _ hx2 (List.getElem?_eq_getElem hq2))) (fun _ h=>h) (fun k hk=>keep k hk)
 have hzs2:z.cells.size = c.n:=by rw [← hsz,← hzc,← e1]; simp
 have one:∀ u ∈ catCells uss,u.oneCell' = true:=all_cat fun us hus=>by
  obtain ⟨q,hq,rfl⟩:=List.mem_iff_getElem.1 hus
  exact c.one (hur q _ _ (List.getElem?_eq_getElem (by omega)) (List.getElem?_eq_getElem hq))
 have step:∀ v' w',(Builtin.append_ #[t,t] o.type #[v,.slice a ys.length cap]).run P w = .ok v' w' → (execOp a'.eval o).run P w = .ok (.value v') w':=by
  intro v' w' hrun
  unfold execOp
  simp only [ho,resolve,invoke,builtin,Sem.run_bind,Sem.run_pure,Result.andThen_ok,List.map_toArray,List.map_cons,List.map_nil,hK.ev hx,hK.ev hy,hrun]
 cases a with
 | none =>
  have hc0:=hnone rfl
  subst hc0
  have hy0:ys.length = 0:=by
   rcases hcase with h | ⟨b,off,h,_⟩
   ·exact h
   ·cases h
  have hys:ys = []:=List.eq_nil_of_length_eq_zero hy0
  subst hys
  have hrun:=run_append_owned_none (P:=P) w B t o.type e i c.n hu hi1 v xs.length cs h0
  unfold Oper.wp
  rw [step v w hrun]
  have hgr:w.grownBy w v.ownBlock:=World.grownBy.refl w _
  have huss:uss = []:=List.eq_nil_of_length_eq_zero (by simpa using hul)
  subst huss
  refine hk _ _ ⟨⟨cs,by simpa using h0,fun q x hx2=>?_⟩,hgr,fun g hg=>.inl hg⟩
  have:=elems w hgr q x hx2
  simpa [catCells] using this
 | some ad =>
  have hnews:∀ j u,(catCells uss)[j]? = some u → w.cell? (ad.add j) = some u:=by
   intro j u hu2
   rcases hcase with h | ⟨b,off,h,_,h5⟩
   ·have:uss = []:=List.eq_nil_of_length_eq_zero (by omega)
    subst this; simp [catCells] at hu2
   ·injection h with h; subst h
    rw [addr_add]; exact h5 j u hu2
  have hb2:(xs.length + ys.length) * by' ≤ 140737488355328:=hbound.1
  obtain ⟨v',w',hrun,hown,hgr,_⟩:=run_append_own (P:=P) w B t o.type e i z c.n by' hu hi1 hz1 (by rw [e2,hsz]) e3 hzs2 hp v xs.length cs h0 ad ys.length cap (catCells uss) hcl hnews one (by simp only [maxLen]; omega) hb2 hb
  have hfresh:∀ g,v'.ownBlock = some g → v.ownBlock = some g ∨ w.heap.size ≤ g:=by
   rcases h0.2 with ⟨rfl,hn⟩ | ⟨g0,cap0,cur,rfl,hbg,hh,h5,h6,h7,h8⟩
   ·have hnil:w.ownsRow w.heap.size e c.n (.slice none 0 0) xs.length cs:=⟨h0.1,.inl ⟨rfl,hn⟩⟩
    obtain ⟨v2,w2,hrun2,hown2,_⟩:=run_append_own (P:=P) w w.heap.size t o.type e i z c.n by' hu hi1 hz1 (by rw [e2,hsz]) e3 hzs2 hp _ xs.length cs hnil ad ys.length cap (catCells uss) hcl hnews one (by simp only [maxLen]; omega) hb2 (Nat.le_refl _)
    rw [hrun] at hrun2
    injection hrun2 with e5 e6
    subst e5
    intro g hg; exact .inr (hown2.lt g hg).1
   ·by_cases hroom:xs.length + ys.length ≤ cap0
    ·have hfit:xs.length * i.size + (catCells uss).length ≤ cur.size:=by
      rw [hcl,h7,e2,hsz,← Nat.add_mul]; exact Nat.mul_le_mul_right _ hroom
     have hr2:=run_append_room (P:=P) w t o.type e i hu hi1 g0 xs.length cap0 cur hh ad ys.length cap (catCells uss) (by rw [e2,hsz]; exact hcl) hnews one hroom hfit
     rw [hrun] at hr2
     injection hr2 with e5 e6
     subst e5
     intro g hg; exact .inl hg
    ·have holds:∀ j u,cs[j]? = some u → w.cell? ((⟨g0,0,none⟩:Addr).add j) = some u:=h0.cells (g:=g0) rfl
     have hr2:=run_append_grow (P:=P) w t o.type e i z hu hi1 hz1 ⟨g0,0,none⟩ xs.length cap0 cs (by rw [e2,hsz]; exact h0.1) holds ad ys.length cap (catCells uss) (by rw [e2,hsz]; exact hcl) hnews (by omega) (by omega) (growslice_fits (by omega) (by rw [e3]; exact hb2))
     rw [hrun] at hr2
     injection hr2 with e5 e6
     subst e5
     intro g hg
     simp [Value.ownBlock] at hg
     exact .inr (by omega)
  unfold Oper.wp
  rw [step v' w' hrun]
  exact hk _ _ ⟨⟨cs ++ catCells uss,by simpa using hown,elems w' hgr⟩,hgr,hfresh⟩
end
end Go.Eng
namespace Go.Eng
open Go Go.RowKit
/-! ## Literals -/
def fillL (pl:List (Nat × Nat)):List Value → List (Nat × List Value) → Option (List Value)
 | zs,[]=>some zs
 | zs,(i,us) :: ps=>match pl[i]? with
  | none=>none
  | some (off,size)=>if Nat.beq us.length size && Nat.ble (off + us.length) zs.length then fillL pl (zs.take off ++ us ++ zs.drop (off + us.length)) ps else none
theorem foldl_set (us:List Value):∀ (off k:Nat) (cs:Array Value),off + k + us.length ≤ cs.size →
 ((us.zipIdx k).foldl (fun cs (p:Value × Nat)=>cs.setIfInBounds (off + p.2) p.1) cs).toList = cs.toList.take (off + k) ++ us ++ cs.toList.drop (off + k + us.length):=by
 induction us with
 | nil=>intro off k cs h; simp
 | cons u us ih =>
  intro off k cs h
  simp only [List.length_cons] at h
  simp only [List.zipIdx_cons,List.foldl_cons]
  rw [ih off (k + 1) _ (by simp; omega)]
  apply List.ext_getElem?
  intro j
  simp only [Array.toList_setIfInBounds,List.length_cons]
  have e1:off + (k + 1) = off + k + 1:=by omega
  have e2:off + k + 1 + us.length = off + k + (us.length + 1):=by omega
  rw [e1,e2]
  have hl:(cs.toList.take (off + k)).length = off + k:=by simp; omega
  have hl2:((cs.toList.set (off + k) u).take (off + k + 1)).length = off + k + 1:=by simp; omega
  by_cases h1:j < off + k
  ·rw [List.append_assoc,List.getElem?_append_left (by omega),List.append_assoc,List.getElem?_append_left (by omega),List.getElem?_take,List.getElem?_take,if_pos (by omega),if_pos h1,List.getElem?_set_ne (by omega)]
  ·by_cases h2:j = off + k
   ·subst h2
    rw [List.append_assoc,List.getElem?_append_left (by omega),List.append_assoc,List.getElem?_append_right (by omega),hl,List.getElem?_take,if_pos (by omega),List.getElem?_set_self (by simp; omega)]
    simp
   ·by_cases h3:j < off + k + (us.length + 1)
    ·rw [List.append_assoc,List.getElem?_append_right (by omega),hl2,List.getElem?_append_left (by omega),List.append_assoc,List.getElem?_append_right (by omega),hl,List.cons_append,show j - (off + k) = (j - (off + k + 1)) + 1 by omega,List.getElem?_cons_succ,List.getElem?_append_left (by omega)]
    ·rw [List.getElem?_append_right (by simp; omega),List.getElem?_append_right (by simp; omega),List.getElem?_drop,List.getElem?_drop]
     simp only [List.length_append,hl,hl2,List.length_cons]
     rw [List.getElem?_set_ne (by omega)]
     congr 1; omega
theorem fill_of {place:Nat → Option (Nat × Nat)} {pl:List (Nat × Nat)} (hp:∀ i x,pl[i]? = some x → place i = some x):∀ (ps:List (Nat × Value)) (uss:List (Nat × List Value)) (cs:Array Value) (out:List Value),
 ps.map (fun p=>(p.1,p.2.cells.toList)) = uss → fillL pl cs.toList uss = some out → Instr.fill place cs ps = some out.toArray
 | [],uss,cs,out,h,hf=>by
  simp at h; subst h
  simp [fillL] at hf; subst hf
  simp [Instr.fill]
 | (i,v) :: ps,uss,cs,out,h,hf=>by
  simp at h; subst h
  simp only [fillL] at hf
  split at hf
  ·cases hf
  ·rename_i off size hpl
   split at hf
   ·rename_i hc
    simp only [Bool.and_eq_true,Array.length_toList] at hc
    have hc1:v.cells.size = size:=Nat.eq_of_beq_eq_true hc.1
    have hc2:off + v.cells.size ≤ cs.size:=Nat.le_of_ble_eq_true hc.2
    rw [Instr.fill,hp i _ hpl]
    simp only
    rw [if_neg (by simp [hc1]; omega)]
    refine fill_of hp ps _ _ out rfl ?_
    have:=foldl_set v.cells.toList off 0 cs (by simp; omega)
    have e:(v.cells.zipIdx.foldl (fun cs (p:Value × Nat)=>cs.setIfInBounds (off + p.2) p.1) cs).toList = cs.toList.take off ++ v.cells.toList ++ cs.toList.drop (off + v.cells.toList.length):=by
     rw [← Array.foldl_toList,Array.toList_zipIdx]
     simpa using this
    rw [e]; exact hf
   ·cases hf
def placesN (P:Program) (t:Nat):Option (List (Nat × Nat)) :=
 match P.underlying t with
 | some (.struct fs)=>fs.toList.mapM fun f=>(P.info? f.type).map fun i=>(f.offset,i.size)
 | some (.array n e)=>(P.info? e).map fun i=>(List.range n).map fun k=>(k * i.size,i.size)
 | _=>none
def kparts (K:KL):List (Nat × Operand) → Option (List (Nat × Value))
 | []=>some []
 | (i,x) :: xs=>match kev K x,kparts K xs with | some v,some vs=>some ((i,v) :: vs) | _,_=>none
section
variable {P:Program} {N:Nat} {α:Type} {c:Cod α} {w:World} {B:Nat} {S S':Nat → Prop} {e:TypeId} {xs ys zs:List α} {v:Value} {o:Oper} {K:KL}
theorem Kn.parts {a} (h:Kn N K a):∀ {xs vs},kparts K xs = some vs → xs.map (fun (p:Nat × Operand)=>(p.1,a.eval p.2)) = vs
 | [],vs,e=>by simp [kparts] at e; subst e; rfl
 | (i,x) :: xs,vs,e=>by
  unfold kparts at e
  split at e
  ·rename_i v vs' h1 h2
   injection e with e; subst e
   simp [h.ev h1,h.parts h2]
  ·cases e
theorem run_places {fs:List Field} {pl:List (Nat × Nat)} (h:fs.mapM (fun f=>(P.info? f.type).map fun i=>(f.offset,i.size)) = some pl) (w:World) :
 (fs.mapM (m:=Sem) fun f=>do pure (f.offset,← sizeOf f.type)).run P w = .ok pl w:=by
 induction fs generalizing pl with
 | nil=>simp at h; subst h; simp
 | cons f fs ih =>
  simp only [List.mapM_cons,Option.bind_eq_bind,Option.bind_eq_some_iff,Option.pure_def,Option.some.injEq] at h
  obtain ⟨p,h1,ps,h2,rfl⟩:=h
  obtain ⟨i,hi,rfl⟩:=Option.map_eq_some_iff.1 h1
  have:=ih h2
  simp [List.mapM_cons,sizeOf,typeInfo,hi] at this ⊢
  simp [this]
theorem yld_build {t parts vs uss zc pl out} (ho:o.op = .build t parts) (hp:kparts K parts.toList = some vs) (hz:zeroN P t = some zc) (hpl:placesN P t = some pl)
 (hu:vs.map (fun p=>(p.1,p.2.cells.toList)) = uss) (hf:fillL pl zc uss = some out):Yld P N K o w (.agg out.toArray):=by
 intro a hK w' _
 have e1:=hK.parts hp
 unfold zeroN at hz
 obtain ⟨i,hi,hz2⟩:=Option.bind_eq_some_iff.1 hz
 obtain ⟨z,hz3,hz4⟩:=Option.map_eq_some_iff.1 hz2
 have ep:(parts.map fun (p:Nat × Operand)=>(p.1,a.eval p.2)).toList = vs:=by rw [Array.toList_map]; exact e1
 unfold placesN at hpl
 split at hpl
 ·rename_i fs hus
  have hr:=run_places hpl w'
  have hfill:=fill_of (place:=fun i=>pl[i]?) (pl:=pl) (fun i x h=>h) vs uss z.cells out hu (by rw [hz4]; exact hf)
  simp only [execOp,ho,Instr.build,zeroValue,typeInfo,Sem.run_bind,Result.andThen_ok,Sem.run_pure,run_underlying hus]
  have hm:(fs.mapM (m:=Sem) fun f=>do pure (f.offset,← sizeOf f.type)).run P w' = .ok pl.toArray w':=by
   rw [show fs = fs.toList.toArray by simp,List.mapM_toArray]
   have hr':=hr
   simp at hr' ⊢
   simp [hr']
  simp [hi,hz3]
  simp at hm
  rw [hm]
  have ep2:(Array.map (fun x=>(x.fst,a.eval x.snd)) parts).toList = vs:=ep
  simp at ep2
  simp [ep2,hfill]
 ·rename_i n e hus
  obtain ⟨j,hj,rfl⟩:=Option.map_eq_some_iff.1 hpl
  have hfill:=fill_of (place:=fun i=>some (i * j.size,j.size)) (pl:=(List.range n).map fun k=>(k * j.size,j.size)) (fun i x h=>by
   have hin:i < n:=by have:=(List.getElem?_eq_some_iff.1 h).1; simpa using this
   simpa [hin] using h) vs uss z.cells out hu (by rw [hz4]; exact hf)
  have ep2:(Array.map (fun x=>(x.fst,a.eval x.snd)) parts).toList = vs:=ep
  simp at ep2
  simp [execOp,ho,Instr.build,zeroValue,typeInfo,run_underlying hus,hi,hz3,sizeOf,hj,ep2,hfill]
 ·cases hpl
theorem eff_buildSlice {t len parts vs uss zc sz by' out} (ho:o.op = .buildSlice t len parts) (hu:P.underlying t = some (.slice e)) (hi:infoN P e = some (zc,sz,by')) (hp:kparts K parts.toList = some vs)
 (huss:vs.map (fun p=>(p.1,p.2.cells.toList)) = uss) (hf:fillL ((List.range len).map fun k=>(k * sz,sz)) (madeCells zc.toArray (len * sz)).toList uss = some out)
 (hsm:Nat.ble (len * sz) 16777216 = true) (hsz:sz = c.n) (hpos:Nat.blt 0 c.n = true) (hl:len = xs.length) (hrep:∀ i x,xs[i]? = some x → c.rep w S x (elemCells out c.n i)) (hS:∀ k,S k → k < w.heap.size) (hol:out.length = len * sz) :
 Eff P N K o w (fun u w'=>∃ g,u = .slice (some ⟨g,0,none⟩) len len ∧ g = w.heap.size ∧ w'.heap.size = w.heap.size + 1 ∧ Ext w w' ∧ ownR c w' g S e xs u):=by
 intro a hK Kt Q hk
 have e1:=hK.parts hp
 unfold infoN at hi
 obtain ⟨i,hi1,hi2⟩:=Option.bind_eq_some_iff.1 hi
 obtain ⟨z,hz1,hz2⟩:=Option.map_eq_some_iff.1 hi2
 simp only [Prod.mk.injEq] at hz2
 obtain ⟨e3,e4,e5⟩:=hz2
 have hsm:=Nat.le_of_ble_eq_true hsm
 have ep:(parts.map fun (p:Nat × Operand)=>(p.1,a.eval p.2)).toList = vs:=by rw [Array.toList_map]; exact e1
 have hzc:z.cells = zc.toArray:=by rw [← e3]
 have hfill:=fill_of (place:=fun i=>some (i * sz,sz)) (pl:=(List.range len).map fun k=>(k * sz,sz)) (fun i x h=>by
  have hin:i < len:=by have:=(List.getElem?_eq_some_iff.1 h).1; simpa using this
  simpa [hin] using h) vs uss (madeCells zc.toArray (len * sz)) out huss hf
 have hr:(execOp a.eval o).run P w = .ok (.value (.slice (some ⟨w.heap.size,0,none⟩) len len)) (w.alloc (.cells out.toArray e)):=by
  have ep2:(Array.map (fun x=>(x.fst,a.eval x.snd)) parts).toList = vs:=ep
  have hle:¬ (16777216 < len * sz):=by omega
  by_cases h0:len * sz = 0
  ·have hm:madeCells zc.toArray (len * sz) = #[]:=by rw [h0]; simp [madeCells]
   rw [hm] at hfill
   simp at ep2
   simp [execOp,ho,Instr.buildSlice,run_underlying hu,sizeOf,typeInfo,hi1,e4,h0,ep2,Array.range_zero']
   skip
   simp [hfill,newRow,newObj]
   try simp [Sem.run,Result.andThen]
  ·simp at ep2
   simp [execOp,ho,Instr.buildSlice,run_underlying hu,sizeOf,typeInfo,hi1,e4,h0,hle,ep2,zeroValue,hz1]
   have hm:(Array.map (fun x=>z.cells[x % z.cells.size]!) (Array.range (len * sz))) = madeCells zc.toArray (len * sz):=by rw [hzc]; rfl
   skip
   simp [hm,hfill,newRow,newObj]
   try simp [Sem.run,Result.andThen]
 unfold Oper.wp
 rw [hr]
 refine hk _ _ ⟨w.heap.size,rfl,rfl,by simp,Ext.alloc _ _,out,?_,fun q x hx=>c.mono (hrep q x hx) (fun _ h=>h) (fun k hk=>Below.heap_alloc w _ k (hS k hk))⟩
 have h1:=World.ownsRow_lit (e:=e) (size:=c.n) w out.toArray len (Nat.le_refl w.heap.size) (by
  have:len ≤ len * sz:=Nat.le_mul_of_pos_right _ (by have h:=hpos; simp [Nat.blt] at h; omega)
  simp only [maxLen]; omega) (by simp [hol,hsz])
 rw [← hl]
 simpa using h1
end
end Go.Eng
namespace Go.Eng
open Go Go.RowKit
/-! ## Regions whose order is drawn, with operations that act -/
section
variable {P:Program} {N:Nat} {ops:Array Oper} {Q:Exit → Act → World → Prop} {md:Region.Mode} {S S':World → Prop} {n:Nat}
def wpAnyT (P:Program) (md:Region.Mode) (ops:Array Oper) (n:Nat) (Q:Exit → Act → World → Prop) (S:World → Prop):Nat → Array Bool → Act → World → Prop
 | 0,listed,a,w=>Region.ready md ops listed = [] ∧ Q .normal a w
 | f + 1,listed,a,w=>(Region.ready md ops listed = [] → Q .normal a w) ∧
  ∀ i ∈ Region.ready md ops listed,wpOp P ops Q i (fun a' w'=>(i < n → S w') ∧ wpAnyT P md ops n Q S f (listed.setIfInBounds i true) a' w') a w
theorem wpAnyT.any:∀ (f:Nat) (listed:Array Bool) (a:Act) (w:World),wpAnyT P md ops n Q S f listed a w → wpAny P md ops Q f listed a w
 | 0,_,_,_,h=>h
 | f + 1,_,_,_,h=>⟨h.1,fun i hi=>wpOp_mono (fun a' w' h'=>wpAnyT.any f _ a' w' h'.2) (h.2 i hi)⟩
theorem wpAnyT.mono (hS:∀ w,S' w → S w):∀ (f:Nat) (listed:Array Bool) (a:Act) (w:World),wpAnyT P md ops n Q S' f listed a w → wpAnyT P md ops n Q S f listed a w
 | 0,_,_,_,h=>h
 | f + 1,_,_,_,h=>⟨h.1,fun i hi=>wpOp_mono (fun a' w' h'=>⟨fun hn=>hS _ (h'.1 hn),wpAnyT.mono hS f _ a' w' h'.2⟩) (h.2 i hi)⟩
theorem wpAnyT.first {i:Nat} {oi:Oper} {v:Value} (hi:ops[i]? = some oi) (hin:i < n) (hnn:n ≤ ops.size) (hsel:∀ (j:Nat) (o:Oper) cs b,ops[j]? = some o → o.op ≠ .select cs b)
 (htail:n = ops.size ∨ (Region.sinkB md ops n = true ∧ Region.chainB md ops n = true ∧ n < ops.size))
 (hQ:∀ c a w,Q (.panic c) (a.put oi.dst v) w → Q (.panic c) a w) :
 ∀ (f:Nat) (listed:Array Bool) (a:Act) (w:World),HeadInv md ops n listed →
  (∀ j oj,ops[j]? = some oj → j ≠ i → listed.getD j true = false → (∀ e ∈ oj.after,Region.binds md e = true → e.on ≠ i) → oi.apart ops oj = true) →
  i ∈ Region.ready md ops listed → YieldsIf P ops S oi v a → S w →
  wpAnyT P md ops n Q S f (listed.setIfInBounds i true) (a.put oi.dst v) w → wpAnyT P md ops n Q S (f + 1) listed a w:=by
 have headonly:∀ listed,HeadInv md ops n listed → i ∈ Region.ready md ops listed → ∀ j ∈ Region.ready md ops listed,j < n:=by
  intro listed inv hr j hj
  have hjs:j < ops.size:=by
   obtain ⟨_,oj,hoj,_⟩:=mem_ready.1 hj
   exact (Array.getElem?_eq_some_iff.1 hoj).1
  rcases htail with h | ⟨h1,h2,h3⟩
  ·omega
  ·rcases Nat.lt_or_ge j n with h | h
   ·exact h
   ·exact absurd hj (tail_waits h1 h2 h3 inv _ i rfl hin (mem_ready.1 hr).1 j h)
 intro f
 induction f with
 | zero =>
  intro listed a w inv _ hr hy hS H
  refine ⟨fun h=>(by rw [h] at hr; cases hr),fun j hj=>?_⟩
  by_cases hji:j = i
  ·subst hji; exact hy.wpOp hi hS ⟨fun _=>hS,H⟩
  ·have:=ready_mono hj hji
   rw [H.1] at this
   cases this
 | succ f ih =>
  intro listed a w inv hfree hr hy hS H
  refine ⟨fun h=>(by rw [h] at hr; cases hr),fun j hj=>?_⟩
  have hjn:=headonly listed inv hr j hj
  by_cases hji:j = i
  ·subst hji; exact hy.wpOp hi hS ⟨fun _=>hS,H⟩
  ·have h1:=H.2 j (ready_mono hj hji)
   obtain ⟨hjun,oj,hoj,hall⟩:=mem_ready.1 hj
   have hnot:∀ e ∈ oj.after,Region.binds md e = true → e.on ≠ i:=fun e he hb heq=>by
    have h1:=hall e he hb
    rw [heq,getD_both (mem_ready.1 hr).1] at h1
    cases h1
   have h2:=wpOp_putIf hoj (hfree j oj hoj hji hjun hnot) (fun cs b=>hsel i oi cs b hi) (fun cs b=>hsel j oj cs b hoj) hQ hy h1
   have hfree':∀ k ok,ops[k]? = some ok → k ≠ i → (listed.setIfInBounds j true).getD k true = false →
    (∀ e ∈ ok.after,Region.binds md e = true → e.on ≠ i) → oi.apart ops ok = true:=fun k ok hk hki hun hno=>by
    refine hfree k ok hk hki ?_ hno
    by_cases hjk:j = k
    ·subst hjk; exact hjun
    ·rw [getD_set_ne true hjk] at hun; exact hun
   refine wpOp_mono (fun a' w' h3=>⟨fun _=>h3.2.1 hjn,ih (listed.setIfInBounds j true) a' w' (inv.set hj hjn) hfree' (ready_mono hr (Ne.symm hji)) h3.1 (h3.2.1 hjn) ?_⟩) h2
   rw [Array.setIfInBounds_comm _ _ hji]
   exact h3.2.2
theorem wpAnyT.seq {Q':Exit → Act → World → Prop}:∀ (l:List Oper) (k:Nat) (listed:Array Bool) (a:Act) (w:World),(∀ j,l[j]? = ops[k + j]?) → n ≤ k →
 Region.seqB md ops l.length k listed = true → wpList P ops Q' l a w → wpAnyT P md ops n Q' S l.length listed a w
 | [],k,listed,a,w,hl,hk,hB,h=>⟨by simpa [Region.seqB] using hB,h⟩
 | o :: l,k,listed,a,w,hl,hk,hB,h=>by
  have h0:ops[k]? = some o:=by simpa using (hl 0).symm
  simp only [List.length_cons,Region.seqB,Bool.and_eq_true,decide_eq_true_eq] at hB
  refine ⟨fun h1=>(by rw [hB.1] at h1; cases h1),fun i hi=>?_⟩
  rw [hB.1] at hi
  have hik:i = k:=by simpa using hi
  subst hik
  have hw:wpOp P ops Q' i (wpList P ops Q' l) a w:=by unfold wpOp; simp only [h0]; exact h
  exact wpOp_mono (fun a' w' h'=>⟨fun h=>absurd h (by omega),wpAnyT.seq l (i + 1) _ a' w' (fun j=>by have:=hl (j + 1); simpa [Nat.add_assoc,Nat.add_comm 1 j] using this) (by omega) hB.2 h'⟩) hw
def HL (P:Program) (N:Nat) (ops:Array Oper) (n:Nat) (Q:Exit → Act → World → Prop) (w0:World) (f:Nat) (listed:Array Bool) (K:KL) (w:World):Prop :=
 HeadInv .any ops n listed → Ext w0 w → ∀ a,Kn N K a → wpAnyT P .any ops n Q (fun w'=>Ext w0 w') f listed a w
def noPan (Q:Exit → Act → World → Prop):Exit → Act → World → Prop
 | .panic _,_,_=>False
 | e,a,w=>Q e a w
def headB (ops:Array Oper) (n:Nat):Bool:=Region.noSelect ops && Nat.ble n ops.size && (Nat.beq n ops.size || (Region.sinkB .any ops n && Region.chainB .any ops n && Nat.blt n ops.size))
theorem headB.spec (h:headB ops n = true):Region.noSelect ops = true ∧ n ≤ ops.size ∧ (n = ops.size ∨ (Region.sinkB .any ops n = true ∧ Region.chainB .any ops n = true ∧ n < ops.size)):=by
 unfold headB at h
 simp only [Bool.and_eq_true,Bool.or_eq_true] at h
 refine ⟨h.1.1,Nat.le_of_ble_eq_true h.1.2,?_⟩
 rcases h.2 with h | h
 ·exact .inl (Nat.eq_of_beq_eq_true h)
 ·refine .inr ⟨h.1.1,h.1.2,?_⟩
  have h2:=h.2; simp [Nat.blt] at h2; omega
variable {K:KL} {w w0:World} {f:Nat} {listed:Array Bool}
theorem HL.yld {o:Oper} {v:Value} (i:Nat) (hh:headB ops n = true) (hi:ops[i]? = some o) (hc:(Nat.blt i n && Region.free .any ops listed i && (Region.ready .any ops listed).contains i) = true) (hg:o.guard = none) (hd:okDst N o.dst = true)
 (h:Yld P N K o w0 v) (k:HL P N ops n (noPan Q) w0 f (listed.setIfInBounds i true) (kput K o.dst v) w):HL P N ops n (noPan Q) w0 (f + 1) listed K w:=by
 intro inv hx a hK
 obtain ⟨hs,hn,ht⟩:=headB.spec hh
 simp only [Bool.and_eq_true] at hc
 have hin:i < n:=by have h2:=hc.1.1; simp [Nat.blt] at h2; omega
 have hr:i ∈ Region.ready .any ops listed:=by simpa using hc.2
 refine wpAnyT.first hi hin hn (Region.noSelect_spec hs) ht (fun c a w h=>h.elim) f listed a w inv (Region.free_spec hi hc.1.2) hr ?_ hx (k (inv.set hr hin) hx _ (hK.put (okDst.h hd)))
 exact .inl ⟨by simp [Region.wanted,hg],fun w' hw'=>h a hK w' hw'⟩
theorem HL.eff {o:Oper} {R:Value → World → Prop} (i:Nat) (hi:ops[i]? = some o) (hin:Nat.blt i n = true) (hr:Region.ready .any ops listed = [i]) (hg:o.guard = none) (hd:okDst N o.dst = true)
 (h:Eff P N K o w R) (k:∀ v w',R v w' → Ext w0 w' ∧ HL P N ops n (noPan Q) w0 f (listed.setIfInBounds i true) (kput K o.dst v) w'):HL P N ops n (noPan Q) w0 (f + 1) listed K w:=by
 intro inv hx a hK
 have hin':i < n:=by have h2:=hin; simp [Nat.blt] at h2; omega
 have hri:i ∈ Region.ready .any ops listed:=by rw [hr]; simp
 refine ⟨fun h0=>(by rw [h0] at hr; cases hr),fun j hj=>?_⟩
 rw [hr] at hj
 have hji:j = i:=by simpa using hj
 subst hji
 unfold wpOp
 simp only [hi]
 rw [if_pos (by simp [Region.wanted,hg])]
 refine .inl (h a hK _ _ fun u w' hR=>?_)
 obtain ⟨h1,h2⟩:=k u w' hR
 exact ⟨fun _=>h1,h2 (inv.set hri hin') h1 _ (hK.put (okDst.h hd))⟩
theorem HL.tail {l:List Oper} (hops:ops = l.toArray) (hseq:Region.seqB .any ops (l.drop n).length n listed = true) (hf:f = (l.drop n).length) (k:TL P N ops (noPan Q) (l.drop n) K w):HL P N ops n (noPan Q) w0 f listed K w:=by
 intro inv hx a hK
 rw [hf]
 exact wpAnyT.seq (l.drop n) n listed a w (fun j=>by rw [hops,List.getElem?_drop]; simp) (Nat.le_refl n) hseq (k a hK)
theorem HL.done (hr:Region.ready .any ops listed = []) (h:NX N Q .normal K w):HL P N ops n (noPan Q) w0 f listed K w:=by
 intro inv hx a hK
 cases f with
 | zero=>exact ⟨hr,h a hK⟩
 | succ f=>exact ⟨fun _=>h a hK,by rw [hr]; simp⟩
theorem WC.held {id:Nat} {l:List Oper} (n:Nat) (hm:P.follows .mixedOrders = true)
 (h:∀ w',Ext w w' → HL P N l.toArray n (noPan Q) w' l.length (Array.replicate l.length false) K w'):WC P N (.region id l.toArray true) Q K w:=by
 intro a hK
 have inv0:HeadInv .any l.toArray n (Array.replicate l.length false) :=
  ⟨by simp,fun j oj _ hl=>(by rw [getD_replicate_false] at hl; cases hl),fun t _ ht=>getD_in (by simpa using ht) (getD_replicate_false _ _)⟩
 refine Code.wp_mono ?_ (wp_region_any hm (wpAnyT.any _ _ _ _ (h w.drew (Ext.drew w) (by simpa using inv0) (Ext.refl _) a hK)))
 intro e a w hq
 cases e <;> first | exact hq | exact hq.elim
theorem TL.noPan {l:List Oper} (h:NX N Q .normal K w):TL P N ops (noPan Q) [] K w:=fun a hK=>h a hK
end
/-! ## More operations -/
section
variable {P:Program} {N:Nat} {α:Type} {c:Cod α} {w:World} {S:Nat → Prop} {xs:List α} {v:Value} {o:Oper} {K:KL}
theorem yld_nilCheck {x a} (ho:o.op = .nilCheck x) (hx:kev K x = some (.pointer (some a))):Yld P N K o w (.pointer (some a)):=by
 intro a hK w' _
 simp [execOp,ho,hK.ev hx]
def subL {α:Type} (xs:List α) (lo hi:Int):Option (List α):=if 0 ≤ lo ∧ lo ≤ hi ∧ hi ≤ xs.length then some ((xs.take hi.toNat).drop lo.toNat) else none
theorem sliceBound_in {k:IntKind} {i:Int} {y:Nat} {code:BoundsCode} {w:World} (h0:0 ≤ i) (h1:i ≤ y):(Instr.sliceBound (.int k i) y code).run P w = .ok i.toNat w:=by
 simp [Instr.sliceBound,asIntOf,h0,h1]
theorem slice_of {e:TypeId} {a:Option Addr} {cap:Nat} {lo hi:Int} (h1:xs.length ≤ cap ∧ (a = none → cap = 0)) (h3:cap ≤ 9223372036854775807)
 (h4:0 < xs.length → ∃ b off,a = some ⟨b,off,none⟩ ∧ S b ∧ ∀ i x,xs[i]? = some x → ∃ us,c.rep w S x us ∧ CellsAt w b (off + i * c.n) us)
 (g0:0 ≤ lo) (g1:lo ≤ hi) (g2:hi ≤ xs.length) :
 slRep c w S ((xs.take hi.toNat).drop lo.toNat) (.slice (if cap = lo.toNat then a else a.map (·.add (lo.toNat * c.n))) (hi.toNat - lo.toNat) (cap - lo.toNat)):=by
 have hl:((xs.take hi.toNat).drop lo.toNat).length = hi.toNat - lo.toNat:=by simp; omega
 refine ⟨_,_,by rw [hl],⟨by rw [hl]; omega,fun h=>?_⟩,by omega,fun hpos=>?_⟩
 ·split at h
  ·omega
  ·have:a = none:=by cases a <;> simp_all
   have:=h1.2 this; omega
 ·rw [hl] at hpos
  obtain ⟨b,off,rfl,hb,h5⟩:=h4 (by omega)
  rw [if_neg (by omega)]
  refine ⟨b,off + lo.toNat * c.n,by simp [addr_add],hb,fun i x hx=>?_⟩
  rw [List.getElem?_drop,List.getElem?_take] at hx
  split at hx
  ·obtain ⟨us,h6,h7⟩:=h5 _ _ hx
   refine ⟨us,h6,?_⟩
   have e1:off + lo.toNat * c.n + i * c.n = off + (lo.toNat + i) * c.n:=by rw [Nat.add_mul]; omega
   rw [e1]; exact h7
  ·cases hx
end
/-! ## Slices of the call's own whose elements lead into memory -/
section
variable {α:Type} {c:Cod α} {w w':World} {B hi:Nat} {e:TypeId} {xs zs:List α} {v v':Value}
theorem Grew.below {lo:Nat} (h:Grew w w' v v') (hb:∀ g,v.ownBlock = some g → lo ≤ g):Below lo w w' ∨ w.heap.size < lo:=by
 by_cases hl:lo ≤ w.heap.size
 ·exact .inl ⟨h.1.os,h.1.tape,h.1.output,h.1.size,fun k hk=>h.1.block k (by omega) (fun e=>by have:=hb k e.symm; omega)⟩
 ·exact .inr (by omega)
theorem Grew.low {lo:Nat} (h:Grew w w' v v') (hb:∀ g,v.ownBlock = some g → lo ≤ g) (hl:lo ≤ w.heap.size):Below lo w w':=by
 rcases h.below hb with h | h
 ·exact h
 ·omega
theorem Grew.box {b:Nat} {us:List Value} {t:TypeId} (h:Grew w w' v v') (hb:Box w b us t) (hne:∀ g,v.ownBlock = some g → g ≠ b):Box w' b us t:=by
 unfold Box; rw [h.1.block b hb.lt (fun e=>hne b e.symm rfl)]; exact hb
theorem Grew.slr {lo hi:Nat} (h:Grew w w' v v') {ys:List α} {u:Value} (hs:slRep c w (Iv lo hi) ys u) (hne:∀ g,v.ownBlock = some g → g < lo ∨ hi ≤ g) (hle:hi ≤ w.heap.size):slRep c w' (Iv lo hi) ys u :=
 hs.mono (fun _ h=>h) (fun k hk=>h.1.block k (by have:=hk.2; omega) (fun e=>by have:=hne k e.symm; have:=hk.1; have:=hk.2; omega))
theorem Grew.bd {S:Nat → Prop} (h:Grew w w' v v') (ho:ownR c w' B S e zs v') {lo hi:Nat} (hb:∀ g,v.ownBlock = some g → lo ≤ g ∧ g < hi) (hl:lo ≤ w.heap.size) (hh:hi ≤ w'.heap.size):∀ g,v'.ownBlock = some g → lo ≤ g ∧ g < w'.heap.size:=fun g hg=>by
 have h1:=(ho.blk g hg).2
 rcases h.2 g hg with h2 | h2
 ·exact ⟨(hb g h2).1,h1⟩
 ·exact ⟨by omega,h1⟩
end
section
variable {P:Program} {N:Nat} {α:Type} {c:Cod α} {w:World} {B:Nat} {e:TypeId} {xs ys zs:List α} {v:Value} {o:Oper} {K:KL}
theorem eff_appendF [Flat c] {t x y u zc sz by'} {S2:Nat → Prop} (ho:o.op = .call { callee:=.builtin .append,args:=#[x,y],argTypes:=#[t,t] }) (hu:P.underlying t = some (.slice e)) (hi:infoN P e = some (zc,sz,by')) (hsz:sz = c.n) (hzc:zc.length = sz)
 (hpos:Nat.blt 0 c.n = true) (hx:kev K x = some v) (hy:kev K y = some u) (hs:ownR c w B (Iv 0 0) e xs v) (hb:B ≤ w.heap.size) (hr:slRep c w S2 ys u) (ha:appN xs ys by' = some zs) :
 Eff P N K o w (fun v' w'=>ownR c w' B (Iv 0 0) e zs v' ∧ Grew w w' v v') :=
 eff_append (S':=Iv 0 0) ho hu hi hsz hzc hpos hx hy hs hb hr ha (fun _ h=>h) (fun _ _ h=>Flat.any h) (fun k h=>absurd h.2 (Nat.not_lt_zero k))
end
end Go.Eng
namespace Go.Eng
open Go Go.RowKit
section
variable {α β:Type} {c:Cod α} {d:Cod β} {w w':World} {B hi:Nat} {e e2:TypeId} {xs zs:List α} {ys:List β} {v v' u:Value}
theorem Grew.sepP {p:Nat → Prop} (h:Grew w w' v v') (h1:∀ g,v.ownBlock = some g → p g) (h2:∀ g,w.heap.size ≤ g → p g):∀ g,v'.ownBlock = some g → p g:=fun g hg=>(h.2 g hg).elim (h1 g) (h2 g)
theorem bd_of {g k k2:Nat} {u:Value} (h:u = .slice (some ⟨g,0,none⟩) k k2):∀ q,u.ownBlock = some q → g ≤ q ∧ q < g + 1:=by
 subst h; intro q hq
 have h2:g = q:=Option.some.inj hq
 omega
end
section
variable {P:Program} {N:Nat} {α:Type} {c:Cod α} {w:World} {B:Nat} {S:Nat → Prop} {e:TypeId} {xs:List α} {v:Value} {o:Oper} {K:KL}
end
def numFrom:Nat → List (List Value) → List (Nat × List Value)
 | _,[]=>[]
 | k,us :: uss=>(k,us) :: numFrom (k + 1) uss
theorem fillL_from {n len:Nat}:∀ (uss:List (List Value)) (k:Nat) (pre post:List Value),pre.length = k * n → post.length = uss.length * n → (∀ us ∈ uss,us.length = n) → len = k + uss.length →
 fillL ((List.range len).map fun k=>(k * n,n)) (pre ++ post) (numFrom k uss) = some (pre ++ catCells uss)
 | [],k,pre,post,hp,hq,ha,hl=>by
  have:post = []:=List.eq_nil_of_length_eq_zero (by simpa using hq)
  subst this; simp [numFrom,fillL,catCells]
 | us :: uss,k,pre,post,hp,hq,ha,hl=>by
  have hus:us.length = n:=ha us (List.mem_cons_self ..)
  have hk:((List.range len).map fun k=>(k * n,n))[k]? = some (k * n,n):=by
   have:k < len:=by rw [hl,List.length_cons]; omega
   simp [this]
  have hq':post.length = uss.length * n + n:=by rw [hq,List.length_cons,Nat.add_mul]; omega
  have e:List.take (k * n) (pre ++ post) ++ us ++ List.drop (k * n + us.length) (pre ++ post) = (pre ++ us) ++ post.drop n:=by
   rw [← hp,List.take_left,List.drop_append,hus,List.drop_eq_nil_of_le (by omega)]
   simp
  have:=fillL_from (len:=len) uss (k + 1) (pre ++ us) (post.drop n) (by rw [List.length_append,hp,hus,Nat.add_mul]; omega) (by rw [List.length_drop,hq']; omega) (fun x hx=>ha x (List.mem_cons_of_mem _ hx)) (by rw [hl,List.length_cons]; omega)
  have hb:(Nat.beq us.length n && Nat.ble (k * n + us.length) (pre ++ post).length) = true:=by
   rw [Bool.and_eq_true]
   exact ⟨by rw [hus]; exact Nat.beq_refl n,Nat.ble_eq_true_of_le (by rw [List.length_append,hp,hq',hus]; omega)⟩
  rw [numFrom,fillL]
  simp only [hk]
  rw [hb,e,if_pos rfl,this]
  simp [catCells]
theorem fillL_all {n len:Nat} {zc:Array Value} {uss:List (Nat × List Value)} (uls:List (List Value)) (h1:uss = numFrom 0 uls) (h2:uls.all (fun us=>Nat.beq us.length n) = true) (h3:uls.length = len) :
 fillL ((List.range len).map fun k=>(k * n,n)) (madeCells zc (len * n)).toList uss = some (catCells uls):=by
 subst h1
 have:=fillL_from (n:=n) (len:=len) uls 0 [] (madeCells zc (len * n)).toList (by simp) (by rw [Array.length_toList,size_madeCells,h3]) (fun us hus=>Nat.eq_of_beq_eq_true (List.all_eq_true.1 h2 us hus)) (by omega)
 simpa using this
section
variable {P:Program} {N:Nat} {ops:Array Oper} {Q:Exit → Act → World → Prop} {n:Nat} {K:KL} {w w0:World} {f:Nat} {listed:Array Bool}
def HB (P:Program) (N:Nat) (ops:Array Oper) (n:Nat) (Q:Exit → Act → World → Prop) (w0:World) (f:Nat) (listed:Array Bool) (K:KL) (w:World) (j:Nat):Prop :=
 HeadInv .any ops n listed → Ext w0 w → ∀ a,Kn N K a → wpOp P ops Q j (fun a' w'=>(j < n → Ext w0 w') ∧ wpAnyT P .any ops n Q (fun w'=>Ext w0 w') f (listed.setIfInBounds j true) a' w') a w
theorem HL.many {js:List Nat} (hr:Region.ready .any ops listed = js) (hne:js.isEmpty = false) (h:∀ j ∈ js,HB P N ops n Q w0 f listed K w j):HL P N ops n Q w0 (f + 1) listed K w:=by
 intro inv hx a hK
 refine ⟨fun h0=>(by rw [hr] at h0; subst h0; cases hne),fun j hj=>?_⟩
 rw [hr] at hj
 exact h j hj inv hx a hK
theorem HB.eff {o:Oper} {R:Value → World → Prop} (i:Nat) (hi:ops[i]? = some o) (hin:Nat.blt i n = true) (hr:(Region.ready .any ops listed).contains i = true) (hg:o.guard = none) (hd:okDst N o.dst = true)
 (h:Eff P N K o w R) (k:∀ v w',R v w' → Ext w0 w' ∧ HL P N ops n (noPan Q) w0 f (listed.setIfInBounds i true) (kput K o.dst v) w'):HB P N ops n (noPan Q) w0 f listed K w i:=by
 intro inv hx a hK
 have hin':i < n:=by have h2:=hin; simp [Nat.blt] at h2; omega
 have hri:i ∈ Region.ready .any ops listed:=by simpa using hr
 unfold wpOp
 simp only [hi]
 rw [if_pos (by simp [Region.wanted,hg])]
 refine .inl (h a hK _ _ fun u w' hR=>?_)
 obtain ⟨h1,h2⟩:=k u w' hR
 exact ⟨fun _=>h1,h2 (inv.set hri hin') h1 _ (hK.put (okDst.h hd))⟩
theorem all_two {p:Nat → Prop} {i j:Nat} (h1:p i) (h2:p j):∀ k ∈ [i,j],p k:=by
 intro k hk
 rcases List.mem_cons.1 hk with rfl | hk
 ·exact h1
 ·obtain rfl:=List.mem_singleton.1 hk; exact h2
theorem WC.join {c:Code} (R:Act → World → Prop) (h1:WC P N c (fun e a w=>e = .normal ∧ R a w) K w) (h2:∀ a w',R a w' → Q .normal a w'):WC P N c Q K w:=by
 intro a hK
 refine Code.wp_mono ?_ (h1 a hK)
 rintro e a w ⟨rfl,h⟩
 exact h2 a w h
end
theorem ownR.slb {α:Type} {c:Cod α} {w:World} {B lo hi:Nat} {S:Nat → Prop} {e:TypeId} {xs:List α} {v:Value} [Flat c] (h:ownR c w B S e xs v) (hb:∀ g,v.ownBlock = some g → lo ≤ g ∧ g < hi):slRep c w (Iv lo hi) xs v:=by
 obtain ⟨cs,h0,h3⟩:=h
 have h1:=h0
 obtain ⟨hl,⟨rfl,hn⟩ | ⟨g,cap,cur,rfl,_,hh,h5,h6,h7,h8⟩⟩:=h1
 ·have:xs = []:=List.eq_nil_of_length_eq_zero hn
  subst this; exact slRep.nil _ _ _
 ·refine ⟨some ⟨g,0,none⟩,cap,rfl,⟨h5,fun h=>by cases h⟩,by simpa [maxLen] using h6,fun hpos=>⟨g,0,rfl,hb g rfl,fun i x hx=>⟨_,Flat.any (h3 i x hx),fun j u hu=>?_⟩⟩⟩
  have hjn:j < c.n:=by
   have:=(List.getElem?_eq_some_iff.1 hu).1
   simp [elemCells] at this; omega
  rw [elemCells_get hjn] at hu
  have:=h0.cells (g:=g) rfl _ _ hu
  rw [addr_add] at this
  rw [show 0 + i * c.n + j = 0 + (i * c.n + j) by omega]; exact ⟨this,by simp [World.frozen?,hh]⟩
def reps {α:Type} (c:Cod α) (w:World) (S:Nat → Prop):List α → List (List Value) → Prop
 | [],[]=>True
 | x :: xs,us :: uss=>c.rep w S x us ∧ reps c w S xs uss
 | _,_=>False
theorem reps.get {α:Type} {c:Cod α} {w:World} {S:Nat → Prop}:∀ {xs:List α} {uss:List (List Value)},reps c w S xs uss → (∀ us ∈ uss,us.length = c.n) ∧ xs.length = uss.length ∧ ∀ (i:Nat) (x:α),xs[i]? = some x → ∃ us:List Value,uss[i]? = some us ∧ c.rep w S x us
 | [],[],_=>⟨by simp,rfl,fun i x h=>by simp at h⟩
 | x :: xs,us :: uss,⟨h1,h2⟩=>by
  obtain ⟨a,b,k⟩:=reps.get h2
  refine ⟨fun q hq=>?_,by simp [b],fun i y hy=>?_⟩
  ·rcases List.mem_cons.1 hq with rfl | hq
   ·exact c.len h1
   ·exact a q hq
  ·cases i with
   | zero=>simp at hy; subst hy; exact ⟨us,rfl,h1⟩
   | succ i=>simpa using k i y (by simpa using hy)
theorem reps.elem {α:Type} {c:Cod α} {w:World} {S:Nat → Prop} {xs:List α} {uss:List (List Value)} (h:reps c w S xs uss):∀ i x,xs[i]? = some x → c.rep w S x (elemCells (catCells uss) c.n i):=by
 intro i x hx
 obtain ⟨a,b,k⟩:=reps.get h
 obtain ⟨us,h1,h2⟩:=k i x hx
 rw [catCells_elem a h1]; exact h2
theorem one_rep {α:Type} {c:Cod α} {w:World} {S:Nat → Prop} {xs:List α} {uss:List (List Value)} {out:List Value} (h:reps c w S xs uss) (ho:out = catCells uss):∀ i x,xs[i]? = some x → c.rep w S x (elemCells out c.n i):=by
 subst ho; exact h.elem
end Go.Eng
namespace Go.Eng
open Go Go.RowKit Go.ChangeShapes Go.WideShapes Go.ChangeAt
/-! ## Arguments, as they are read -/
def Rd {α:Type} (P:Program) (t:TypeId) (c:Cod α) (R:α → Prop):Prop :=
 ∀ (H:Type) (enc:TypeId × Value → H) (w:World) (base:Nat) (spare:Nat → Bool) (held:Bool) (fuel:Nat) (cs:List Value) (x:DataW H × List MemPlace),
  DataW.trod enc P w base spare held fuel t cs = some x → w.noneFrozen x.2 → ∃ y,c.rep w (Iv 0 w.heap.size) y cs ∧ R y
section
variable {P:Program} {t e:TypeId} {α β:Type} {c:Cod α} {d:Cod β} {R:α → Prop} {R':β → Prop}
theorem Rd.weaken (h:Rd P t c R) {Q:α → Prop} (hq:∀ x,R x → Q x):Rd P t c Q:=fun H enc w b sp hd f cs x hx hz=>by
 obtain ⟨y,h1,h2⟩:=h H enc w b sp hd f cs x hx hz
 exact ⟨y,h1,hq y h2⟩
theorem Rd.int {k:IntKind} (hu:P.underlying t = some (.int k)):Rd P t (cInt k) (fun i=>k.min ≤ i ∧ i ≤ k.max):=fun H enc w b sp hd f cs x hx _=>by
 obtain ⟨n,rfl,rfl,hw⟩:=DataW.trod_int hu hx
 simp only [Lit.wf,Bool.and_eq_true,decide_eq_true_eq] at hw
 exact ⟨n,rfl,hw⟩
theorem Rd.bool (hu:P.underlying t = some .bool):Rd P t cBool (fun _=>True):=fun H enc w b sp hd f cs x hx _=>by
 obtain ⟨n,rfl,rfl⟩:=DataW.trod_bool hu hx
 exact ⟨n,rfl,trivial⟩
theorem Rd.str (hu:P.underlying t = some .string):Rd P t cStr (fun s=>s.size ≤ maxLen):=fun H enc w b sp hd f cs x hx _=>by
 obtain ⟨s,rfl,rfl,h⟩:=DataW.trod_string hu hx
 exact ⟨s,rfl,h⟩
theorem list_of {p:Nat → α → Prop}:∀ (n:Nat),(∀ i,i < n → ∃ y,p i y) → ∃ ys:List α,ys.length = n ∧ ∀ i y,ys[i]? = some y → p i y
 | 0,_=>⟨[],rfl,fun i y h=>by simp at h⟩
 | n + 1,h=>by
  obtain ⟨ys,hl,hy⟩:=list_of n (fun i hi=>h i (by omega))
  obtain ⟨y,hn⟩:=h n (by omega)
  refine ⟨ys ++ [y],by simp [hl],fun i z hz=>?_⟩
  by_cases hi:i < n
  ·rw [List.getElem?_append_left (by omega)] at hz; exact hy i z hz
  ·rw [List.getElem?_append_right (by omega),hl] at hz
   by_cases h0:i - n = 0
   ·rw [h0] at hz
    simp at hz
    obtain rfl:i = n:=by omega
    subst hz; exact hn
   ·have:=(List.getElem?_eq_some_iff.1 hz).1
    simp at this; omega
theorem Rd.slice (hu:P.underlying t = some (.slice e)) (hc:P.cellsOf e = c.n) (hp:Nat.blt 0 c.n = true) (h:Rd P e c R):Rd P t (cSl c) (fun xs=>xs.length ≤ 9223372036854775807 ∧ ∀ x ∈ xs,R x):=fun H enc w b sp hd f cs x hx hz=>by
 have hp:0 < c.n:=by have h:=hp; simp [Nat.blt] at h; omega
 rcases Go.Deep.open_slice hu hx with ⟨rfl,rfl⟩ | ⟨a,len,cap,m,n,D,Pl,rfl,hb,hl,hm,hmm,rfl,hel⟩
 ·exact ⟨[],⟨_,rfl,slRep.nil _ _ _⟩,by simp,by simp⟩
 have hle:len ≤ m:=by rw [hmm]; split <;> omega
 obtain ⟨ys,hyl,hy⟩:=list_of (α:=α) (p:=fun i y=>∃ cs',w.cells? b (a.add (i * P.cellsOf e)) (P.cellsOf e) = some cs' ∧ c.rep w (Iv 0 w.heap.size) y cs' ∧ R y) len (fun i hi=>by
  obtain ⟨cs',h1,h2⟩:=hel i (by omega)
  obtain ⟨y,h3,h4⟩:=h H enc w b sp hd n cs' _ h2 (fun b' o' hm=>hz b' o' (List.mem_append_right _ (List.mem_flatMap.2 ⟨i,List.mem_range.2 (by omega),hm⟩)))
  exact ⟨y,cs',h1,h3,h4⟩)
 refine ⟨ys,⟨_,rfl,some a,cap,by rw [hyl],⟨by omega,fun h=>by cases h⟩,by unfold maxLen at hm; omega,fun hpos=>?_⟩,by unfold maxLen at hm; omega,fun x hx=>?_⟩
 ·rw [hc] at hy
  have h0:∃ cs',w.cells? b (a.add (0 * c.n)) c.n = some cs':=by
   obtain ⟨y,hy0⟩:∃ y,ys[0]? = some y:=⟨_,List.getElem?_eq_getElem hpos⟩
   obtain ⟨cs',h1,_⟩:=hy 0 y hy0
   exact ⟨cs',h1⟩
  obtain ⟨cs',h1⟩:=h0
  obtain ⟨_,h2,h3⟩:=World.cells?_some h1
  have h4:=h3 0 hp
  have e0:(a.add (0 * c.n)).add 0 = a:=by simp [Addr.add]
  rw [e0,List.getElem?_eq_getElem (by omega)] at h4
  obtain ⟨blk,off,spot⟩:=a
  have hblk:blk < w.heap.size ∧ spot = none:=by
   unfold World.cell? at h4
   split at h4
   ·rename_i h5
    refine ⟨(Array.getElem?_eq_some_iff.1 h5).1,?_⟩
    cases spot with
    | none=>rfl
    | some s=>simp at h4
   ·cases h4
  obtain ⟨hblk,rfl⟩:=hblk
  refine ⟨blk,off,rfl,⟨Nat.zero_le _,hblk⟩,fun i x hx=>?_⟩
  obtain ⟨cs',h1,h2,_⟩:=hy i x hx
  refine ⟨cs',h2,fun j u hu=>?_⟩
  obtain ⟨_,h3,h4⟩:=World.cells?_some h1
  have hj:=(List.getElem?_eq_some_iff.1 hu).1
  have:=h4 j (by omega)
  rw [addr_add,addr_add] at this
  refine ⟨by rw [this,hu],hz _ _ (List.mem_append_left _ ?_)⟩
  unfold MemPlace.row
  refine List.mem_map.2 ⟨i * c.n + j,List.mem_range.2 ?_,by simp [Nat.add_assoc]⟩
  have hi2:i < m:=by have:=(List.getElem?_eq_some_iff.1 hx).1; omega
  have:(i + 1) * c.n ≤ m * c.n:=Nat.mul_le_mul_right _ hi2
  rw [Nat.add_mul] at this
  rw [hc]; omega
 ·obtain ⟨i,hi⟩:=List.getElem?_of_mem hx
  obtain ⟨_,_,_,h3⟩:=hy i x hi
  exact h3
def RdF {α:Type} (P:Program) (fs:List Field) (off:Nat) (c:Cod α) (R:α → Prop):Prop :=
 ∀ (H:Type) (enc:TypeId × Value → H) (w:World) (base:Nat) (spare:Nat → Bool) (held:Bool) (fuel:Nat) (cs:List Value),
  (∀ f ∈ fs,∃ x,DataW.trod enc P w base spare held fuel f.type ((cs.drop f.offset).take (P.cellsOf f.type)) = some x ∧ w.noneFrozen x.2) → ∃ y,c.rep w (Iv 0 w.heap.size) y ((cs.drop off).take c.n) ∧ R y
theorem RdF.one {f:Field} {off:Nat} (h:Rd P f.type c R) (ho:f.offset = off) (hc:P.cellsOf f.type = c.n):RdF P [f] off c R:=fun H enc w b sp hd fu cs hx=>by
 obtain ⟨x,hx,hz⟩:=hx f (List.mem_singleton.2 rfl)
 obtain ⟨y,h1,h2⟩:=h H enc w b sp hd fu _ x hx hz
 rw [ho,hc] at h1
 exact ⟨y,h1,h2⟩
theorem RdF.cons {f:Field} {fs:List Field} {off:Nat} (h:Rd P f.type c R) (ho:f.offset = off) (hc:P.cellsOf f.type = c.n) (h2:RdF P fs (off + c.n) d R'):RdF P (f :: fs) off (cPair c d) (fun x=>R x.1 ∧ R' x.2):=fun H enc w b sp hd fu cs hx=>by
 obtain ⟨x,hx1,hz1⟩:=hx f (List.mem_cons_self ..)
 obtain ⟨y,h3,h4⟩:=h H enc w b sp hd fu _ x hx1 hz1
 obtain ⟨z,h5,h6⟩:=h2 H enc w b sp hd fu cs (fun g hg=>hx g (List.mem_cons_of_mem _ hg))
 rw [ho,hc] at h3
 refine ⟨(y,z),⟨_,_,?_,h3,h5⟩,h4,h6⟩
 show (cs.drop off).take (c.n + d.n) = _
 rw [List.take_add,List.drop_drop]
theorem Rd.map (h:Rd P t c R) (f:β → α) (g:α → β) (hfg:∀ y,f (g y) = y):Rd P t (cMap f c) (fun x=>R (f x)):=fun H enc w b sp hd fu cs x hx hz=>by
 obtain ⟨y,h1,h2⟩:=h H enc w b sp hd fu cs x hx hz
 exact ⟨g y,by show c.rep w _ (f (g y)) cs; rw [hfg]; exact h1,by show R (f (g y)); rw [hfg]; exact h2⟩
theorem Rd.struct {fs:List Field} (hu:P.underlying t = some (.struct fs.toArray)) (hn:P.cellsOf t = c.n) (h:RdF P fs 0 c R):Rd P t c R:=fun H enc w b sp hd fu cs x hx hz=>by
 obtain ⟨xs,n,rfl,rfl,hl,hlen,hf⟩:=DataW.trod_struct hu hx
 obtain ⟨y,h1,h2⟩:=h H enc w b sp hd n cs (fun f hf'=>by
  obtain ⟨i,hi⟩:=List.getElem?_of_mem hf'
  have:=hf i f (by simpa using hi)
  rw [this]
  have hi':=(List.getElem?_eq_some_iff.1 hi).1
  have hix:i < xs.length:=by rw [hlen]; simpa using hi'
  exact ⟨_,List.getElem?_eq_getElem hix,fun b' o' hm=>hz b' o' (List.mem_flatMap.2 ⟨_,List.getElem_mem hix,hm⟩)⟩)
 rw [List.drop_zero,List.take_of_length_le (by omega)] at h1
 exact ⟨y,h1,h2⟩
end
/-! ## A statement whose answer is true -/
section
variable {H:Type} {enc:TypeId × Value → H} {P:Program}
theorem trodAll_below (hl:laidOutB P = true) {W W':World} (hb:Below W.heap.size W W'):∀ {ts:List TypeId} {vs:List Value} {ds:List (DataW H)} {ps:List MemPlace},(∀ t ∈ ts,P.readableRec t = true ∧ t < P.types.size) →
 DataW.TrodAll enc P W 0 (fun _=>true) true ts vs ds ps → (∀ x ∈ ps,x.block < W.heap.size) → DataW.TrodAll enc P W' 0 (fun b=>decide (b < W.heap.size)) true ts vs ds ps
 | [],[],[],ps,_,h,_=>h
 | t :: ts,v :: vs,d :: ds,ps,hr,h,hlt=>by
  obtain ⟨p,q,h1,h2,rfl⟩:=h
  obtain ⟨h3,h4⟩:=hr t (List.mem_cons_self ..)
  exact ⟨p,q,Below.trod hl h3 h4 h1 hb (fun x hx=>hlt x (List.mem_append_left _ hx)),trodAll_below hl hb (fun t ht=>hr t (List.mem_cons_of_mem _ ht)) h2 (fun x hx=>hlt x (List.mem_append_right _ hx)),rfl⟩
theorem trodAll_len {w:World} {base:Nat} {sp:Nat → Bool} {hd:Bool}:∀ {ts:List TypeId} {vs:List Value} {ds:List (DataW H)} {ps:List MemPlace},DataW.TrodAll enc P w base sp hd ts vs ds ps → ds.length = ts.length
 | [],[],[],_,_=>rfl
 | t :: ts,v :: vs,d :: ds,ps,⟨p,q,_,h,_⟩=>by simp [trodAll_len h]
end
theorem lifted_of {C:Checked} {os:Os} {f:FuncId} {fn:Func} {s:ChangeSpec} {conds:List PathCond} {H:Type} {enc:TypeId × Value → H} {tb:TypeId}
 (own:ownKnob C.prog.godebug = none) (started:os.Started) (noInit:C.prog.inits.idxOf? f = none) (hfn:C.prog.funcs[f]? = some fn)
 (witness:∃ (w:World) (tape:Tape) (i:Input),w.os = os ∧ (w.forCall tape i).Shaped C.prog ∧ i.vars = [] ∧ Input.okWide C.prog (w.forCall tape i) .any w.heap.size f i ∧
  s.pre6 enc C.prog fn conds false (w.forCall tape i).memory i.args ∧ ({}:Assume).holds C.prog (lone (Frame.enter C.prog f i.args .normal) [] (w.forCall tape i)))
 (hl:laidOutB C.prog = true) (hvars:s.vars = []) (hspec:∀ ds:List (DataW H),ds.length = fn.params.toList.length → s.fn H ds = { results:=[.lit (.bool true)],args:=ds })
 (hrt:fn.resultTypes = #[tb]) (hub:C.prog.underlying tb = some .bool) (hpar:∀ t ∈ fn.params.toList,C.prog.readableRec t = true ∧ t < C.prog.types.size)
 (run:∀ (W:World) (base:Nat) (args:Array Value) (ds:List (DataW H)) (p:List MemPlace),
  (∀ (j:Nat) t v,fn.params[j]? = some t → args[j]? = some v → Value.okWide C.prog W .any base t v) →
  DataW.TrodAll enc C.prog W 0 (fun _=>true) true fn.params.toList args.toList ds p → W.noneFrozen p →
  Calls C.prog f args W (Ret fun u w2=>u = .bool true ∧ Ext W w2)) :
 ReturnsInHanded {} C os f .any (s.pre6 enc C.prog fn conds false) (s.post enc C.prog fn false true false false):=by
 refine returnsInHanded_of_change own started noInit hfn witness ?_
 intro W base args ds gs before hval hW _ _
 have hW':=hW
 obtain ⟨p,q,hA,hV,rfl,hz,_⟩:=hW
 rw [hvars] at hV
 obtain ⟨rfl,rfl⟩:=trodVars_none hV
 refine (run W base args ds p hval hA (fun b' o' hm=>hz b' o' (List.mem_append_left _ hm))).mono fun e W' ⟨v,he,hv,hB⟩=>?_
 subst hv
 have e1:s.fn H (ds ++ []) = { results:=[.lit (.bool true)],args:=ds }:=by rw [List.append_nil]; exact hspec ds (trodAll_len hA)
 refine ⟨_,he,ds,[],p ++ [],[],p,[],hW',?_,?_,?_,hB.frame _,fun h=>by cases h⟩
 ·rw [e1,hrt]
  exact ⟨[],[],⟨1,by simp [DataW.trod,Value.cells,hub]⟩,rfl,rfl⟩
 ·rw [e1]
  exact trodAll_below hl hB hpar hA (fun x hx=>hW'.lt x (List.mem_append_left _ hx))
 ·rw [e1,hvars]; rfl
end Go.Eng
namespace Go.Eng
open Go Go.RowKit
/-! ## Plain laws on what the walks compute -/
theorem wrap64 {x:Int} (h1:-9223372036854775808 ≤ x) (h2:x ≤ 9223372036854775807):IntKind.wrap IntKind.i64 x = x:=by
 simp [IntKind.wrap,IntKind.bits,IntKind.signed]
 split <;> omega
theorem getI_nat {α:Type} (xs:List α) (i:Nat):getI xs (i:Int) = xs[i]?:=by simp [getI]
theorem getI_in {α:Type} {xs:List α} {i:Int} (h0:0 ≤ i) (h1:i < xs.length):∃ x,getI xs i = some x ∧ x ∈ xs:=by
 obtain ⟨n,rfl⟩:=Int.eq_ofNat_of_zero_le h0
 have hn:n < xs.length:=by omega
 exact ⟨xs[n],by rw [getI_nat,List.getElem?_eq_getElem hn],List.getElem_mem hn⟩
end Go.Eng
namespace Go.Eng
open Go Go.RowKit
/-! ## Calls that write what they are handed -/
def pB (b:Nat):Nat → Prop:=fun k=>k = b
def pO (v:Value):Nat → Prop:=fun k=>v.ownBlock = some k
theorem all_pB {b:Nat} {Q:Nat → Prop} (h:Q b):∀ k,pB b k → Q k:=fun k e=>by have e:k = b:=e; rw [e]; exact h
theorem all_pO {v:Value} {Q:Nat → Prop} (h:∀ g,v.ownBlock = some g → Q g):∀ k,pO v k → Q k:=h
structure But (p:Nat → Prop) (w w':World):Prop where
 os:w'.os = w.os
 tape:w'.tape = w.tape
 output:w'.output = w.output
 size:w.heap.size ≤ w'.heap.size
 block:∀ k,k < w.heap.size → ¬ p k → w'.heap[k]? = w.heap[k]?
section
variable {p q:Nat → Prop} {w a c:World}
theorem But.refl (p:Nat → Prop) (w:World):But p w w:=⟨rfl,rfl,rfl,Nat.le_refl _,fun _ _ _=>rfl⟩
theorem But.ext (h:But p w a) (he:Ext a c):But p w c :=
 ⟨he.os.trans h.os,he.tape.trans h.tape,he.output.trans h.output,Nat.le_trans h.size he.size,fun k hk hp=>(he.block k (Nat.lt_of_lt_of_le hk h.size)).trans (h.block k hk hp)⟩
theorem But.upd {b:Nat} (h:But p w a) (hu:Upd b a c) (hb:p b ∨ w.heap.size ≤ b):But p w c :=
 ⟨hu.os.trans h.os,hu.tape.trans h.tape,hu.output.trans h.output,by rw [hu.size]; exact h.size,fun k hk hp=>(hu.block k (fun e=>by subst e; exact hb.elim hp (fun h=>by omega))).trans (h.block k hk hp)⟩
theorem But.grow {v v':Value} (h:But p w a) (hg:Grew a c v v') (hb:∀ g,v.ownBlock = some g → p g ∨ w.heap.size ≤ g):But p w c :=
 ⟨hg.1.os.trans h.os,hg.1.tape.trans h.tape,hg.1.output.trans h.output,Nat.le_trans h.size hg.1.size,fun k hk hp=>(hg.1.block k (Nat.lt_of_lt_of_le hk h.size) (fun e=>(hb k e.symm).elim hp (fun h=>by omega))).trans (h.block k hk hp)⟩
theorem But.but (h:But p w a) (hq:But q a c) (hb:∀ k,q k → p k ∨ w.heap.size ≤ k):But p w c :=
 ⟨hq.os.trans h.os,hq.tape.trans h.tape,hq.output.trans h.output,Nat.le_trans h.size hq.size,fun k hk hp=>(hq.block k (Nat.lt_of_lt_of_le hk h.size) (fun e=>(hb k e).elim hp (fun h=>by omega))).trans (h.block k hk hp)⟩
theorem But.below {lo:Nat} (h:But p w a) (hp:∀ k,p k → lo ≤ k) (hl:lo ≤ w.heap.size):Below lo w a :=
 ⟨h.os,h.tape,h.output,h.size,fun k hk=>h.block k (by omega) (fun e=>by have:=hp k e; omega)⟩
theorem Box.but {b:Nat} {us:List Value} {t:TypeId} (hb:Box w b us t) (h:But p w a) (hne:∀ k,p k → k ≠ b):Box a b us t:=by
 have h1:=h.block b hb.lt (fun e=>hne b e rfl)
 unfold Box at hb ⊢; rw [h1,hb]
theorem slRep.but {α:Type} {d:Cod α} {lo hi:Nat} {xs:List α} {v:Value} (hs:slRep d w (Iv lo hi) xs v) (h:But p w a) (hne:∀ k,p k → k < lo ∨ hi ≤ k) (hle:hi ≤ w.heap.size):slRep d a (Iv lo hi) xs v :=
 hs.mono (fun _ h=>h) (fun k hk=>h.block k (by have:=hk.2; omega) (fun e=>by have:=hne k e; have:=hk.1; have:=hk.2; omega))
theorem ownR.butF {α:Type} {d:Cod α} [Flat d] {B:Nat} {e:TypeId} {xs:List α} {v:Value} (ho:ownR d w B (Iv 0 0) e xs v) (h:But p w a) (hne:∀ k,p k → ∀ g,v.ownBlock = some g → k ≠ g):ownR d a B (Iv 0 0) e xs v :=
 ho.keep (fun g hg=>h.block g (ho.blk g hg).2 (fun e=>hne g e g hg rfl)) (fun _ h=>h) (fun k h=>absurd h.2 (Nat.not_lt_zero k))
end
section
variable {P:Program} {N:Nat} {o:Oper} {K:KL} {w:World}
theorem pt_cons {i:Nat} {v:Value} {us:List Value} {ps:List (Nat × Value)} {uss:List (Nat × List Value)} (h:v.cells.toList = us) (t:ps.map (fun p=>(p.1,p.2.cells.toList)) = uss):((i,v) :: ps).map (fun p=>(p.1,p.2.cells.toList)) = (i,us) :: uss:=by
 rw [List.map_cons,t,h]
theorem slRep.cl {α:Type} {c:Cod α} {w:World} {S:Nat → Prop} {xs:List α} {v:Value} (h:slRep c w S xs v):v.cells.toList = [v]:=by rw [slRep.cells h]
/-! ## Functions as values, shifts, bits -/
theorem eff_callv {x f args tys vs cs} {R:Value → World → Prop} (ho:o.op = .call { callee:=.value x,args:=args,argTypes:=tys }) (hf:goFn P f = true) (hx:kev K x = some (.func (.func f) #[] cs))
 (ha:kevs K args.toList = some vs) (hc:Calls P f (vs ++ cs.toList).toArray w (Ret R)):Eff P N K o w R:=by
 intro a hK Kt Q hk
 have he:args.map a.eval = vs.toArray:=by
  have:=hK.evs ha
  apply Array.ext'
  simpa using this
 have hr:(execOp a.eval o).run P w = .ok (.enter f (vs ++ cs.toList).toArray) w:=by
  have e:vs.toArray ++ cs = (vs ++ cs.toList).toArray:=by simp
  simp [execOp,ho,resolve,hK.ev hx,Deferred.ofValue,invoke,he,e,run_goFn hf]
 unfold Oper.wp
 rw [hr]
 exact hc.mono fun e w' ⟨v,he,hR⟩=>by subst he; exact hk _ _ hR
def shrK (k:IntKind) (m n:Int):Int:=m.fdiv (2 ^ (min n.toNat k.bits))
theorem yld_shr {t x y u k k2 m n} (ho:o.op = .binOp .shr t x y u) (hx:kev K x = some (.int k m)) (hy:kev K y = some (.int k2 n)) (h0:¬ n < 0):Yld P N K o w (.int k (shrK k m n)):=by
 intro a hK w' _
 simp [execOp,ho,hK.ev hx,hK.ev hy,eqGuard,binOp,Op.shift,h0,shrK]
end
end Go.Eng
namespace Go.Eng
open Go Go.RowKit
section
variable {P:Program} {N:Nat} {o:Oper} {K:KL} {w:World}
theorem yld_eqnil_t {t x y u e} (ho:o.op = .binOp .eql t x y u) (hu:P.underlying t = some (.slice e)) (hx:kev K x = some (.slice none 0 0)) (hy:kev K y = some (.slice none 0 0)):Yld P N K o w (.bool true):=by
 intro a hK w' _
 simp [execOp,ho,hK.ev hx,hK.ev hy,eqGuard,binOp,run_equal_slice_nil,hu]
theorem yld_eqnil_f {t x y u e p n cap} (ho:o.op = .binOp .eql t x y u) (hu:P.underlying t = some (.slice e)) (hx:kev K x = some (.slice (some p) n cap)) (hy:kev K y = some (.slice none 0 0)):Yld P N K o w (.bool false):=by
 intro a hK w' _
 simp [execOp,ho,hK.ev hx,hK.ev hy,eqGuard,binOp,run_equal_slice_nil,hu]
theorem slRep.nil_or {α:Type} {c:Cod α} {S:Nat → Prop} {xs:List α} {v:Value} (h:slRep c w S xs v):(v = .slice none 0 0 ∧ xs = []) ∨ ∃ p n cap,v = .slice (some p) n cap:=by
 obtain ⟨a,cap,rfl,⟨h2,h3⟩,_,_⟩:=h
 cases a with
 | none =>
  have:=h3 rfl
  have hx:xs = []:=List.eq_nil_of_length_eq_zero (by omega)
  subst hx; subst this; exact .inl ⟨rfl,rfl⟩
 | some p=>exact .inr ⟨p,_,cap,rfl⟩
variable {Q:Exit → Act → World → Prop}
theorem WC.cond_t {c:Operand} {x y:Code} (hc:kev K c = some (.bool true)) (ht:WC P N x Q K w):WC P N (.cond c x y) Q K w:=WC.cond hc (fun _=>ht) (fun h=>absurd h (by decide))
theorem WC.cond_f {c:Operand} {x y:Code} (hc:kev K c = some (.bool false)) (hf:WC P N y Q K w):WC P N (.cond c x y) Q K w:=WC.cond hc (fun h=>absurd h (by decide)) (fun _=>hf)
/-! ## A drawn region that writes what was there: the blocks of p -/
def YA (P:Program) (N:Nat) (K:KL) (o:Oper) (Ψ:Value → Prop):Prop:=∃ v,(∀ w,Yld P N K o w v) ∧ Ψ v
theorem ya_index_own {α:Type} {c:Cod α} {xs:List α} {v:Value} {B:Nat} {S:Nat → Prop} {e:TypeId} {y:α} {t x i k m} (ho:o.op = .indexAddr t x i) (hu:P.underlying t = some (.slice e)) (hc:cellsN P e = some c.n) (hx:kev K x = some v)
 (hi2:kev K i = some (.int k m)) (hs:ownR c w B S e xs v) (hg:getI xs m = some y) :
 YA P N K o (fun u=>∃ g us,u = .pointer (some ⟨g,0 + m.toNat * c.n,none⟩) ∧ v.ownBlock = some g ∧ c.rep w S y us ∧ CellsAt w g (0 + m.toNat * c.n) us):=by
 obtain ⟨u,h1,g,us,rfl,h2,h3,h4⟩:=ye_index_own (N:=N) ho hu hc hx hi2 hs hg
 obtain ⟨g0,g1,g2⟩:=getI_lt hg
 obtain ⟨cs,⟨hl,⟨rfl,_⟩ | ⟨g',cap,cur,rfl,_⟩⟩,_⟩:=hs
 ·cases h2
 ·have h2:g' = g:=Option.some.inj h2
  subst h2
  exact ⟨_,fun w=>by have:=yld_indexAddr (N:=N) (w:=w) ho hu hc hx hi2 g0 g1; simpa [addr_add] using this,g',us,rfl,rfl,h3,h4⟩
end
section
variable {P:Program} {N:Nat} {ops:Array Oper} {Q:Exit → Act → World → Prop} {n:Nat} {K:KL} {w w0:World} {f:Nat} {listed:Array Bool} {p:Nat → Prop}
def HLG (P:Program) (N:Nat) (ops:Array Oper) (n:Nat) (Q:Exit → Act → World → Prop) (p:Nat → Prop) (w0:World) (f:Nat) (listed:Array Bool) (K:KL) (w:World):Prop :=
 HeadInv .any ops n listed → But p w0 w → ∀ a,Kn N K a → wpAnyT P .any ops n Q (fun w'=>But p w0 w') f listed a w
theorem HLG.yld {o:Oper} {v:Value} (i:Nat) (hh:headB ops n = true) (hi:ops[i]? = some o) (hc:(Nat.blt i n && Region.free .any ops listed i && (Region.ready .any ops listed).contains i) = true) (hg:o.guard = none) (hd:okDst N o.dst = true)
 (h:∀ wx,But p w0 wx → Yld P N K o wx v) (k:HLG P N ops n (noPan Q) p w0 f (listed.setIfInBounds i true) (kput K o.dst v) w):HLG P N ops n (noPan Q) p w0 (f + 1) listed K w:=by
 intro inv hx a hK
 obtain ⟨hs,hn,ht⟩:=headB.spec hh
 simp only [Bool.and_eq_true] at hc
 have hin:i < n:=by have h2:=hc.1.1; simp [Nat.blt] at h2; omega
 have hr:i ∈ Region.ready .any ops listed:=by simpa using hc.2
 refine wpAnyT.first hi hin hn (Region.noSelect_spec hs) ht (fun c a w h=>h.elim) f listed a w inv (Region.free_spec hi hc.1.2) hr ?_ hx (k (inv.set hr hin) hx _ (hK.put (okDst.h hd)))
 exact .inl ⟨by simp [Region.wanted,hg],fun w' hw'=>h w' hw' a hK w' (Ext.refl w')⟩
theorem HLG.ya {o:Oper} {Ψ:Value → Prop} (i:Nat) (hh:headB ops n = true) (hi:ops[i]? = some o) (hc:(Nat.blt i n && Region.free .any ops listed i && (Region.ready .any ops listed).contains i) = true) (hg:o.guard = none) (hd:okDst N o.dst = true)
 (h:YA P N K o Ψ) (k:∀ v,Ψ v → HLG P N ops n (noPan Q) p w0 f (listed.setIfInBounds i true) (kput K o.dst v) w):HLG P N ops n (noPan Q) p w0 (f + 1) listed K w:=by
 obtain ⟨v,h1,h2⟩:=h; exact HLG.yld i hh hi hc hg hd (fun wx _=>h1 wx) (k v h2)
theorem HLG.eff {o:Oper} {R:Value → World → Prop} (i:Nat) (hi:ops[i]? = some o) (hin:Nat.blt i n = true) (hr:Region.ready .any ops listed = [i]) (hg:o.guard = none) (hd:okDst N o.dst = true)
 (h:Eff P N K o w R) (k:∀ v w',R v w' → But p w0 w' ∧ HLG P N ops n (noPan Q) p w0 f (listed.setIfInBounds i true) (kput K o.dst v) w'):HLG P N ops n (noPan Q) p w0 (f + 1) listed K w:=by
 intro inv hx a hK
 have hin':i < n:=by have h2:=hin; simp [Nat.blt] at h2; omega
 have hri:i ∈ Region.ready .any ops listed:=by rw [hr]; simp
 refine ⟨fun h0=>(by rw [h0] at hr; cases hr),fun j hj=>?_⟩
 rw [hr] at hj
 have hji:j = i:=by simpa using hj
 subst hji
 unfold wpOp
 simp only [hi]
 rw [if_pos (by simp [Region.wanted,hg])]
 refine .inl (h a hK _ _ fun u w' hR=>?_)
 obtain ⟨h1,h2⟩:=k u w' hR
 exact ⟨fun _=>h1,h2 (inv.set hri hin') h1 _ (hK.put (okDst.h hd))⟩
theorem HLG.tail {l:List Oper} (hops:ops = l.toArray) (hseq:Region.seqB .any ops (l.drop n).length n listed = true) (hf:f = (l.drop n).length) (k:TL P N ops (noPan Q) (l.drop n) K w):HLG P N ops n (noPan Q) p w0 f listed K w:=by
 intro inv hx a hK
 rw [hf]
 exact wpAnyT.seq (l.drop n) n listed a w (fun j=>by rw [hops,List.getElem?_drop]; simp) (Nat.le_refl n) hseq (k a hK)
theorem HLG.done (hr:Region.ready .any ops listed = []) (h:NX N Q .normal K w):HLG P N ops n (noPan Q) p w0 f listed K w:=by
 intro inv hx a hK
 cases f with
 | zero=>exact ⟨hr,h a hK⟩
 | succ f=>exact ⟨fun _=>h a hK,by rw [hr]; simp⟩
theorem WC.heldG {id:Nat} {l:List Oper} (n:Nat) (hm:P.follows .mixedOrders = true)
 (h:∀ w',Ext w w' → HLG P N l.toArray n (noPan Q) p w' l.length (Array.replicate l.length false) K w'):WC P N (.region id l.toArray true) Q K w:=by
 intro a hK
 have inv0:HeadInv .any l.toArray n (Array.replicate l.length false) :=
  ⟨by simp,fun j oj _ hl=>(by rw [getD_replicate_false] at hl; cases hl),fun t _ ht=>getD_in (by simpa using ht) (getD_replicate_false _ _)⟩
 refine Code.wp_mono ?_ (wp_region_any hm (wpAnyT.any _ _ _ _ (h w.drew (Ext.drew w) (by simpa using inv0) (But.refl p _) a hK)))
 intro e a w hq
 cases e <;> first | exact hq | exact hq.elim
theorem CellsAt.but {b off:Nat} {us:List Value} (h:CellsAt w b off us) (hb:But p w w0) (hne:∀ k,p k → k ≠ b) (hlt:b < w.heap.size):CellsAt w0 b off us:=h.block (hb.block b hlt (fun e=>hne b e rfl))
end
/-! ## What is left out within what is left out -/
section
variable {P:Program} {N:Nat} {ops:Array Oper} {Q:Exit → Act → World → Prop} {K:KL} {w:World} {o:Oper} {rest:List Oper} {Qa:Act → Prop}
end
end Go.Eng
namespace Go.Eng
open Go Go.RowKit
/-! ## Plain laws on the statements' marks -/
theorem wSE {i:Nat} (h:i < 4611686018427387904):IntKind.wrap IntKind.i64 ((i:Int) + 1) = ((i + 1:Nat):Int):=by rw [wrap64 (by omega) (by omega)]; simp
end Go.Eng
namespace Go.Eng
open Go Go.RowKit
/-! ## Arrays in a box, texts put together, bytes as a text -/
section
variable {P:Program} {N:Nat} {K:KL} {o:Oper} {w:World}
end
/-! ## Plain laws on sizes and marks -/
end Go.Eng
namespace Go.Eng
open Go Go.RowKit Go.ChangeShapes Go.WideShapes Go.ChangeAt
/-! ## A statement whose answer is true, where package-level variables are laid -/
section
variable {H:Type} {enc:TypeId × Value → H} {P:Program} {w:World} {base:Nat} {spare:Nat → Bool} {held:Bool}
theorem trodA_nil {vs:List Value} {ds:List (DataW H)} {ps:List MemPlace} (h:DataW.TrodAll enc P w base spare held [] vs ds ps):vs = [] ∧ ds = []:=by
 match vs,ds,h with
 | [],[],_=>exact ⟨rfl,rfl⟩
theorem trodU_cons {t:TypeId} {ts:List TypeId} {vs:List Value} {ds:List (DataW H)} {ps:List MemPlace} (h:DataW.TrodAll enc P w base spare held (t :: ts) vs ds ps) (hz:w.noneFrozen ps) :
 ∃ v vs' d ds' p q,vs = v :: vs' ∧ ds = d :: ds' ∧ DataW.Trod enc P w base spare held t v d p ∧ w.noneFrozen p ∧ DataW.TrodAll enc P w base spare held ts vs' ds' q ∧ w.noneFrozen q:=by
 match vs,ds,h with
 | v :: vs',d :: ds',⟨p,q,h1,h2,e⟩=>subst e; exact ⟨v,vs',d,ds',p,q,rfl,rfl,h1,fun b o hm=>hz b o (List.mem_append_left _ hm),h2,fun b o hm=>hz b o (List.mem_append_right _ hm)⟩
theorem args_to {a:Array Value} {l:List Value} (h:a.toList = l):a = l.toArray:=by rw [← h]
end
section
variable {P:Program} {N:Nat} {K:KL} {o:Oper} {w w0:World}
end
end Go.Eng
namespace Go.Eng
open Go Go.RowKit
/-! ## Orders of a drawn region that writes -/
section
variable {P:Program} {N:Nat} {ops:Array Oper} {Q:Exit → Act → World → Prop} {n:Nat} {K:KL} {w w0:World} {f:Nat} {listed:Array Bool} {p:Nat → Prop}
def HGB (P:Program) (N:Nat) (ops:Array Oper) (n:Nat) (Q:Exit → Act → World → Prop) (p:Nat → Prop) (w0:World) (f:Nat) (listed:Array Bool) (K:KL) (w:World) (j:Nat):Prop :=
 HeadInv .any ops n listed → But p w0 w → ∀ a,Kn N K a → wpOp P ops Q j (fun a' w'=>(j < n → But p w0 w') ∧ wpAnyT P .any ops n Q (fun w'=>But p w0 w') f (listed.setIfInBounds j true) a' w') a w
theorem HLG.many {js:List Nat} (hr:Region.ready .any ops listed = js) (hne:js.isEmpty = false) (h:∀ j ∈ js,HGB P N ops n Q p w0 f listed K w j):HLG P N ops n Q p w0 (f + 1) listed K w:=by
 intro inv hx a hK
 refine ⟨fun h0=>(by rw [hr] at h0; subst h0; cases hne),fun j hj=>?_⟩
 rw [hr] at hj
 exact h j hj inv hx a hK
theorem HGB.eff {o:Oper} {R:Value → World → Prop} (i:Nat) (hi:ops[i]? = some o) (hin:Nat.blt i n = true) (hr:(Region.ready .any ops listed).contains i = true) (hg:o.guard = none) (hd:okDst N o.dst = true)
 (h:Eff P N K o w R) (k:∀ v w',R v w' → But p w0 w' ∧ HLG P N ops n (noPan Q) p w0 f (listed.setIfInBounds i true) (kput K o.dst v) w'):HGB P N ops n (noPan Q) p w0 f listed K w i:=by
 intro inv hx a hK
 have hin':i < n:=by have h2:=hin; simp [Nat.blt] at h2; omega
 have hri:i ∈ Region.ready .any ops listed:=by simpa using hr
 unfold wpOp
 simp only [hi]
 rw [if_pos (by simp [Region.wanted,hg])]
 refine .inl (h a hK _ _ fun u w' hR=>?_)
 obtain ⟨h1,h2⟩:=k u w' hR
 exact ⟨fun _=>h1,h2 (inv.set hri hin') h1 _ (hK.put (okDst.h hd))⟩
theorem But.trans (h:But p w0 w) {w2:World} (h2:But p w w2):But p w0 w2:=h.but h2 fun _ hk=>.inl hk
end
end Go.Eng
namespace Go.Eng
open Go Go.RowKit
/-! ## The beginning of an own slice -/
def cutV (v:Value) (m:Nat):Value:=match v with
 | .slice a _ cap=>.slice a m cap
 | v=>v
section
variable {P:Program} {N:Nat} {o:Oper} {K:KL} {w:World}
variable {α:Type} {c:Cod α} {B:Nat} {S:Nat → Prop} {e:TypeId} {xs:List α} {v:Value}
theorem cutV_own {m:Nat}:(cutV v m).ownBlock = v.ownBlock:=by
 cases v with
 | slice a n cap=>cases a <;> rfl
 | _=>rfl
theorem ownR.cut (h:ownR c w B S e xs v) {m:Nat} (hm:m ≤ xs.length):ownR c w B S e (xs.take m) (cutV v m):=by
 obtain ⟨cs,⟨hl,h1⟩,h2⟩:=h
 have hmn:m * c.n ≤ xs.length * c.n:=Nat.mul_le_mul_right _ hm
 refine ⟨cs.take (m * c.n),⟨?_,?_⟩,?_⟩
 ·rw [List.length_take,List.length_take]
  rw [show min m xs.length = m by omega]; omega
 ·rw [List.length_take,show min m xs.length = m by omega]
  rcases h1 with ⟨rfl,h0⟩ | ⟨g,cap,cur,rfl,a1,a2,a3,a4,a5,a6⟩
  ·obtain rfl:m = 0:=by omega
   exact .inl ⟨rfl,rfl⟩
  ·refine .inr ⟨g,cap,cur,rfl,a1,a2,by omega,a4,a5,?_⟩
   rw [← a6,List.take_take]
   congr 1; omega
 ·intro i x hx
  have hi:i < m:=by
   have:=(List.getElem?_eq_some_iff.1 hx).1
   rw [List.length_take] at this; omega
  rw [List.getElem?_take_of_lt hi] at hx
  have:=h2 i x hx
  have e1:elemCells (cs.take (m * c.n)) c.n i = elemCells cs c.n i:=by
   unfold elemCells
   have:(i + 1) * c.n ≤ m * c.n:=Nat.mul_le_mul_right _ (by omega)
   rw [Nat.add_mul] at this
   rw [List.drop_take,List.take_take]
   congr 1; omega
  rw [e1]; exact this
end
end Go.Eng
namespace Go.Eng
open Go Go.RowKit
/-! ## Steps that ask for no fact, many at once -/
def bopI (op:BinOp) (k:IntKind) (m n:Int):Option Value:=match op with
 | .add=>some (.int k (k.wrap (m + n)))
 | .sub=>some (.int k (k.wrap (m - n)))
 | .mul=>some (.int k (k.wrap (m * n)))
 | .quo=>bif n == 0 then none else some (.int k (k.wrap (m.tdiv n)))
 | .rem=>bif n == 0 then none else some (.int k (m.tmod n))
 | .lss=>some (.bool (decide (m < n)))
 | .leq=>some (.bool (decide (m ≤ n)))
 | .gtr=>some (.bool (decide (m > n)))
 | .geq=>some (.bool (decide (m ≥ n)))
 | .eql=>some (.bool (m == n))
 | .neq=>some (.bool (m != n))
 | _=>none
def yq (K:KL) (p:Op):Option Value:=match p with
 | .move x=>kev K x
 | .assign x=>kev K x
 | .binOp op _ x y _=>match kev K x,kev K y with
  | some (.int k m),some (.int k' n)=>bif decide (k = k') then bopI op k m n else none
  | some (.string a),some (.string b)=>match op with
   | .eql=>some (.bool (a.toList == b.toList))
   | .neq=>some (.bool (a.toList != b.toList))
   | _=>none
  | _,_=>none
 | .unOp u _ x=>match kev K x with
  | some (.bool b)=>match u with
   | .not=>some (.bool (!b))
   | _=>none
  | some (.int k m)=>match u with
   | .neg=>some (.int k (k.wrap (0 - m)))
   | _=>none
  | _=>none
 | .extract x i=>match kev K x with
  | some (.tuple vs)=>vs[i]?
  | _=>none
 | .pick c x y=>match kev K c with
  | some (.bool b)=>match b with
   | true=>kev K x
   | false=>kev K y
  | _=>none
 | _=>none
section
variable {P:Program} {N:Nat}
theorem bopI_ok {K:KL} {o:Oper} {w:World} {op t x y u k m n v} (ho:o.op = .binOp op t x y u) (hx:kev K x = some (.int k m)) (hy:kev K y = some (.int k n)) (h:bopI op k m n = some v):Yld P N K o w v:=by
 cases op <;> simp only [bopI,Option.some.injEq,reduceCtorEq] at h
 case add=>subst h; exact yld_add ho hx hy
 case sub=>subst h; exact yld_sub ho hx hy
 case mul=>subst h; exact yld_mul ho hx hy
 case quo=>obtain ⟨h1,h2⟩:=nzero h; obtain rfl:=Option.some.inj h2; exact yld_quo ho hx hy h1
 case rem=>obtain ⟨h1,h2⟩:=nzero h; obtain rfl:=Option.some.inj h2; exact yld_rem ho hx hy h1
 case lss=>subst h; exact yld_lss ho hx hy
 case leq=>subst h; exact yld_leq ho hx hy
 case gtr=>subst h; exact yld_gtr ho hx hy
 case geq=>subst h; exact yld_geq ho hx hy
 case eql=>subst h; exact yld_eql ho hx hy
 case neq=>subst h; exact yld_neq ho hx hy
theorem yq_ok {K:KL} {o:Oper} {w:World} {v:Value} (h:yq K o.op = some v):Yld P N K o w v:=by
 generalize ho:o.op = p at h
 cases p <;> simp only [yq,reduceCtorEq] at h
 case move=>exact yld_move ho h
 case assign=>exact yld_assign ho h
 case binOp =>
  split at h
  ·rename_i k m k' n hx hy
   by_cases hk:k = k'
   ·subst hk; rw [decide_eq_true rfl] at h; exact bopI_ok ho hx hy h
   ·rw [decide_eq_false hk] at h; cases h
  ·rename_i a b hx hy
   split at h
   ·obtain rfl:=Option.some.inj h; exact yld_eqs ho hx hy
   ·obtain rfl:=Option.some.inj h; exact yld_nes ho hx hy
   ·cases h
  ·cases h
 case unOp =>
  split at h
  ·rename_i b hx
   split at h
   ·obtain rfl:=Option.some.inj h; exact yld_not ho hx
   ·cases h
  ·rename_i k m hx
   split at h
   ·obtain rfl:=Option.some.inj h; exact yld_neg ho hx
   ·cases h
  ·cases h
 case extract =>
  split at h
  ·rename_i vs hx; exact yld_extract ho hx h
  ·cases h
 case pick =>
  split at h
  ·rename_i b hc
   split at h
   ·exact yld_pick_t ho hc rfl h
   ·exact yld_pick_f ho hc rfl h
  ·cases h
end
inductive Gd where
 | yes | skip | no
def gdo (N:Nat) (ops:Array Oper) (K:KL) (o:Oper):Gd:=match okDst N o.dst with
 | false=>.no
 | true=>match o.guard with
  | none=>.yes
  | some (j,want)=>match slotOf ops j with
   | none=>.no
   | some t=>match kl K t with
    | some (.bool b)=>match b with
     | true=>match want with
      | true=>.yes
      | false=>.skip
     | false=>match want with
      | true=>.skip
      | false=>.yes
    | some (.tuple _)=>.skip
    | _=>.no
section
variable {P:Program} {N:Nat} {ops:Array Oper} {Q:Exit → Act → World → Prop} {K:KL} {w:World} {o:Oper} {rest:List Oper} {Qa:Act → Prop}
theorem gdo_dst {g:Gd} (h:gdo N ops K o = g) (hg:g ≠ .no):okDst N o.dst = true:=by
 subst h
 cases hd:okDst N o.dst with
 | true=>rfl
 | false=>exact absurd (by simp [gdo,hd]) hg
theorem gdo_wanted (h:gdo N ops K o = .yes) {a:Act} (hK:Kn N K a):Region.wanted o (yielded ops a.tmps) = true:=by
 unfold gdo at h
 split at h
 ·cases h
 split at h
 ·rename_i hg; simp [Region.wanted,hg]
 ·rename_i j want hg
  split at h
  ·cases h
  ·rename_i t hs
   split at h
   ·rename_i b hb
    refine wanted_yes hK hg hs hb ?_
    cases b <;> cases want <;> first | rfl | cases h
   ·cases h
   ·cases h
theorem gdo_skip (h:gdo N ops K o = .skip) {a:Act} (hK:Kn N K a):Region.wanted o (yielded ops a.tmps) = false:=by
 unfold gdo at h
 split at h
 ·cases h
 split at h
 ·cases h
 ·rename_i j want hg
  split at h
  ·cases h
  ·rename_i t hs
   split at h
   ·rename_i b hb
    refine wanted_no hK hg hs hb ?_
    cases b <;> cases want <;> first | rfl | cases h
   ·rename_i x hb
    have h1:=hK.get t _ hb
    unfold slotOf at hs
    simp [Region.wanted,hg,yielded,hs,h1]
   ·cases h
theorem Yl {v:Value} (h0:gdo N ops K o = .yes) (h:Yld P N K o w v) (k:TL P N ops Q rest (kput K o.dst v) w):TL P N ops Q (o :: rest) K w:=by
 intro a hK
 unfold wpList
 rw [if_pos (gdo_wanted h0 hK)]
 exact .inl (h.eff a hK _ Q fun u w' ⟨e1,e2⟩=>by subst e1 e2; exact k _ (hK.put (okDst.h (gdo_dst h0 (by simp)))))
theorem Ef {R:Value → World → Prop} (h0:gdo N ops K o = .yes) (h:Eff P N K o w R) (k:∀ v w',R v w' → TL P N ops Q rest (kput K o.dst v) w'):TL P N ops Q (o :: rest) K w:=by
 intro a hK
 unfold wpList
 rw [if_pos (gdo_wanted h0 hK)]
 exact .inl (h a hK _ Q fun u w' hR=>k u w' hR _ (hK.put (okDst.h (gdo_dst h0 (by simp)))))
theorem Ye {Ψ:Value → Prop} (h0:gdo N ops K o = .yes) (h:YE P N K o w Ψ) (k:∀ v,Ψ v → TL P N ops Q rest (kput K o.dst v) w):TL P N ops Q (o :: rest) K w:=by
 obtain ⟨v,h1,h2⟩:=h; exact Yl h0 h1 (k v h2)
theorem Sk (h0:gdo N ops K o = .skip) (k:TL P N ops Q rest (kput K o.dst undef) w):TL P N ops Q (o :: rest) K w:=by
 intro a hK
 unfold wpList
 rw [if_neg (by rw [gdo_skip h0 hK]; exact Bool.false_ne_true)]
 exact k _ (hK.put (okDst.h (gdo_dst h0 (by simp))))
theorem Ql {v:Value} (h0:gdo N ops K o = .yes) (h:Qui P N K o w v) (k:QL P N ops w Qa rest (kput K o.dst v)):QL P N ops w Qa (o :: rest) K:=by
 intro a hK
 unfold wpQuiet
 rw [if_pos (gdo_wanted h0 hK)]
 exact ⟨v,fun w' hw'=>h a hK w' hw',k _ (hK.put (okDst.h (gdo_dst h0 (by simp))))⟩
theorem Qy {v:Value} (h0:gdo N ops K o = .yes) (h:Yld P N K o w v) (k:QL P N ops w Qa rest (kput K o.dst v)):QL P N ops w Qa (o :: rest) K:=Ql h0 h.qui k
theorem Qe {Ψ:Value → Prop} (h0:gdo N ops K o = .yes) (h:YE P N K o w Ψ) (k:∀ v,Ψ v → QL P N ops w Qa rest (kput K o.dst v)):QL P N ops w Qa (o :: rest) K:=by
 obtain ⟨v,h1,h2⟩:=h; exact Qy h0 h1 (k v h2)
theorem Qs (h0:gdo N ops K o = .skip) (k:QL P N ops w Qa rest (kput K o.dst undef)):QL P N ops w Qa (o :: rest) K:=by
 intro a hK
 unfold wpQuiet
 rw [if_neg (by rw [gdo_skip h0 hK]; exact Bool.false_ne_true)]
 exact k _ (hK.put (okDst.h (gdo_dst h0 (by simp))))
theorem Kn.know {a:Act} {t:Nat} {u u':Value} (hK:Kn N K a) (h:kl K t = some u) (e:u = u'):Kn N ((t,u') :: K) a:=by
 subst e
 refine ⟨hK.df,hK.sz,fun s v hs=>hK.get s v ?_⟩
 simp only [kl] at hs
 cases hb:Nat.beq t s with
 | true=>obtain rfl:=Nat.eq_of_beq_eq_true hb; rw [hb] at hs; simp at hs; subst hs; exact h
 | false=>rw [hb] at hs; simpa using hs
theorem Kc (t:Nat) {b b':Bool} {l:List Oper} (e:b = b') (h:kl K t = some (.bool b)) (k:TL P N ops Q l ((t,.bool b') :: K) w):TL P N ops Q l K w:=fun a hK=>k a (hK.know h (by rw [e]))
theorem Kq (t:Nat) {b b':Bool} {l:List Oper} (e:b = b') (h:kl K t = some (.bool b)) (k:QL P N ops w Qa l ((t,.bool b') :: K)):QL P N ops w Qa l K:=fun a hK=>k a (hK.know h (by rw [e]))
theorem ant {c b:Bool} (h:c = true):b = (c && b):=by subst h; rfl
theorem anf {c b:Bool} (h:c = false):false = (c && b):=by subst h; rfl
end
inductive Frame where
 | seq (c:Code)
 | blk (id:Nat)
 | lp (f:Act → World → Prop)
inductive Md where
 | c (c:Code)
 | o (ops:Array Oper) (l:List Oper)
 | e (e:Exit)
section
variable (P:Program) (N:Nat) (Q0:Exit → Act → World → Prop)
def den:List Frame → Exit → Act → World → Prop
 | []=>Q0
 | .seq c :: fs=>Exit.then (fun a w=>c.wp P (den fs) a w) (den fs)
 | .blk id :: fs=>Exit.inBlock id (den fs)
 | .lp f :: fs=>Exit.then f (den fs)
def FIN (m:Md) (fs:List Frame) (K:KL) (w:World):Prop:=match m with
 | .c c=>WC P N c (den P Q0 fs) K w
 | .o ops l=>TL P N ops (den P Q0 fs) l K w
 | .e e=>NX N (den P Q0 fs) e K w
def RUN:Nat → Md → List Frame → KL → World → Prop
 | 0=>fun m fs K w=>FIN P N Q0 m fs K w
 | n + 1=>fun m fs K w=>match m with
  | .c c=>match c with
   | .seq x y=>RUN n (.c x) (.seq y :: fs) K w
   | .region _ ops false=>RUN n (.o ops ops.toList) fs K w
   | .block id x=>RUN n (.c x) (.blk id :: fs) K w
   | .skip=>RUN n (.e .normal) fs K w
   | .exit id=>RUN n (.e (.exit id)) fs K w
   | .ret=>RUN n (.e .ret) fs K w
   | _=>False
  | .o ops l=>match l with
   | []=>RUN n (.e .normal) fs K w
   | o :: rest=>match gdo N ops K o with
    | .yes=>match yq K o.op with
     | some v=>RUN n (.o ops rest) fs (kput K o.dst v) w
     | none=>False
    | .skip=>RUN n (.o ops rest) fs (kput K o.dst undef) w
    | .no=>False
  | .e e=>match fs with
   | []=>False
   | .seq c :: fs=>match e with
    | .normal=>RUN n (.c c) fs K w
    | .ret=>RUN n (.e .ret) fs K w
    | .exit id=>RUN n (.e (.exit id)) fs K w
    | _=>False
   | .blk id :: fs=>match e with
    | .normal=>RUN n (.e .normal) fs K w
    | .ret=>RUN n (.e .ret) fs K w
    | .exit id'=>bif Nat.beq id' id then RUN n (.e .normal) fs K w else RUN n (.e (.exit id')) fs K w
    | _=>False
   | .lp f :: fs=>match e with
    | .normal=>∀ a,Kn N K a → f a w
    | .ret=>RUN n (.e .ret) fs K w
    | .exit id=>RUN n (.e (.exit id)) fs K w
    | _=>False
end
section
variable {P:Program} {N:Nat} {Q0:Exit → Act → World → Prop}
theorem RUN.ok:∀ (n:Nat) {m:Md} {fs:List Frame} {K:KL} {w:World},RUN P N Q0 n m fs K w → FIN P N Q0 m fs K w
 | 0,_,_,_,_,h=>h
 | n + 1,m,fs,K,w,h=>by
  cases m with
  | c c =>
   cases c with
   | seq x y=>exact WC.seq (RUN.ok n h)
   | region id ops d =>
    cases d with
    | false =>
     have h2:TL P N ops (den P Q0 fs) ops.toList K w:=RUN.ok n h
     show WC P N (.region id ops false) (den P Q0 fs) K w
     have:ops = ops.toList.toArray:=by simp
     rw [this]; rw [this] at h2
     exact WC.region (by simpa using h2)
    | true=>exact h.elim
   | block id x=>exact WC.block (RUN.ok n h)
   | skip=>exact WC.skip' (RUN.ok n h)
   | exit id=>exact WC.exit' (RUN.ok n h)
   | ret=>exact WC.ret' (RUN.ok n h)
   | cond _ _ _=>exact h.elim
   | loop _=>exact h.elim
   | _=>exact h.elim
  | o ops l =>
   cases l with
   | nil=>exact TL.done (RUN.ok n h)
   | cons o rest =>
    simp only [RUN] at h
    split at h
    ·rename_i hg
     split at h
     ·rename_i v hv; exact Yl hg (yq_ok hv) (RUN.ok n h)
     ·exact h.elim
    ·rename_i hg; exact Sk hg (RUN.ok n h)
    ·exact h.elim
  | e e =>
   cases fs with
   | nil=>exact h.elim
   | cons f fs =>
    cases f with
    | seq c =>
     cases e with
     | normal=>exact NX.seq (RUN.ok n h)
     | ret=>exact NX.then_r (RUN.ok n h)
     | exit id=>exact NX.then_e (RUN.ok n h)
     | _=>exact h.elim
    | blk id =>
     cases e with
     | normal=>exact NX.blk_n (RUN.ok n h)
     | ret=>exact NX.blk_r (RUN.ok n h)
     | exit id' =>
      simp only [RUN] at h
      cases hb:Nat.beq id' id with
      | true =>
       rw [hb] at h
       obtain rfl:=Nat.eq_of_beq_eq_true hb
       exact NX.blk_hit (RUN.ok n h)
      | false=>rw [hb] at h; exact NX.blk_miss hb (RUN.ok n h)
     | _=>exact h.elim
    | lp f =>
     cases e with
     | normal=>exact NX.then_n h
     | ret=>exact NX.then_r (RUN.ok n h)
     | exit id=>exact NX.then_e (RUN.ok n h)
     | _=>exact h.elim
variable {K:KL} {w:World} {fs:List Frame} {ops:Array Oper}
theorem Rc (n:Nat) {c:Code} (h:RUN P N Q0 n (.c c) fs K w):WC P N c (den P Q0 fs) K w:=RUN.ok (m:=.c c) n h
theorem Ro (n:Nat) {l:List Oper} (h:RUN P N Q0 n (.o ops l) fs K w):TL P N ops (den P Q0 fs) l K w:=RUN.ok (m:=.o ops l) n h
theorem Re (n:Nat) {e:Exit} (h:RUN P N Q0 n (.e e) fs K w):NX N (den P Q0 fs) e K w:=RUN.ok (m:=.e e) n h
theorem calls_ofD {f:FuncId} {fn:Func} {c:Code} {vs:List Value} {w:World} {R:Ending → World → Prop}
 (hf:P.funcs[f]? = some fn) (hb:fn.body = some c) (hn:fn.ntmps = N) (h:WC P N c (den P (bodyPost P fn R) []) (argsK 0 vs) w):Calls P f vs.toArray w R:=calls_of hf hb hn h
theorem WC.loopD {c:Code} (I:Nat → Act → World → Prop) (m:Nat) (h0:∀ a,Kn N K a → I m a w)
 (round:∀ m a w,I m a w → c.wp P (den P Q0 (.lp (fun a' w'=>∃ m',m' < m ∧ I m' a' w') :: fs)) a w):WC P N (.loop c) (den P Q0 fs) K w:=WC.loop I m h0 round
theorem TL.cutD {l:List Oper} (k:Nat) (K':KL) (R:World → Prop) (h1:TL P N ops (den P Q0 (.lp (fun a' w'=>Kn N K' a' ∧ R w') :: fs)) (l.take k) K w) (h2:∀ w',R w' → TL P N ops (den P Q0 fs) (l.drop k) K' w'):TL P N ops (den P Q0 fs) l K w:=TL.cut k K' R h1 h2
end
section
variable (P:Program) (N:Nat) (ops:Array Oper)
def TRUN (Q:Exit → Act → World → Prop):Nat → List Oper → KL → World → Prop
 | 0=>fun l K w=>TL P N ops Q l K w
 | n + 1=>fun l K w=>match l with
  | []=>False
  | o :: rest=>match gdo N ops K o with
   | .yes=>match yq K o.op with
    | some v=>TRUN Q n rest (kput K o.dst v) w
    | none=>False
   | .skip=>TRUN Q n rest (kput K o.dst undef) w
   | .no=>False
def QRUN (w:World) (Qa:Act → Prop):Nat → List Oper → KL → Prop
 | 0=>fun l K=>QL P N ops w Qa l K
 | n + 1=>fun l K=>match l with
  | []=>False
  | o :: rest=>match gdo N ops K o with
   | .yes=>match yq K o.op with
    | some v=>QRUN w Qa n rest (kput K o.dst v)
    | none=>False
   | .skip=>QRUN w Qa n rest (kput K o.dst undef)
   | .no=>False
end
section
variable {P:Program} {N:Nat} {ops:Array Oper} {Q:Exit → Act → World → Prop} {Qa:Act → Prop}
theorem Tr:∀ (n:Nat) {l:List Oper} {K:KL} {w:World},TRUN P N ops Q n l K w → TL P N ops Q l K w
 | 0,_,_,_,h=>h
 | n + 1,l,K,w,h=>by
  cases l with
  | nil=>exact h.elim
  | cons o rest =>
   simp only [TRUN] at h
   split at h
   ·rename_i hg
    split at h
    ·rename_i v hv; exact Yl hg (yq_ok hv) (Tr n h)
    ·exact h.elim
   ·rename_i hg; exact Sk hg (Tr n h)
   ·exact h.elim
theorem Qr {w:World}:∀ (n:Nat) {l:List Oper} {K:KL},QRUN P N ops w Qa n l K → QL P N ops w Qa l K
 | 0,_,_,h=>h
 | n + 1,l,K,h=>by
  cases l with
  | nil=>exact h.elim
  | cons o rest =>
   simp only [QRUN] at h
   split at h
   ·rename_i hg
    split at h
    ·rename_i v hv; exact Qy hg (yq_ok hv) (Qr n h)
    ·exact h.elim
   ·rename_i hg; exact Qs hg (Qr n h)
   ·exact h.elim
end
end Go.Eng
namespace Go.Eng
open Go Go.RowKit
/-! ## Operations, read off at once -/
def faC (K:KL) (p:Op):Option (Nat × Nat × Nat × Nat):=match p with
 | .fieldAddr t x f=>match kev K x with
  | some (.pointer (some ⟨b,off,none⟩))=>some (t,f,b,off)
  | _=>none
 | _=>none
def ldC (K:KL) (p:Op):Option (Nat × Nat × Nat):=match p with
 | .load t x=>match kev K x with
  | some (.pointer (some ⟨b,off,none⟩))=>some (t,b,off)
  | _=>none
 | _=>none
def stC (K:KL) (p:Op):Option (Nat × Nat × Nat × Value):=match p with
 | .store t x y=>match kev K x with
  | some (.pointer (some ⟨b,off,none⟩))=>match kev K y with
   | some v=>some (t,b,off,v)
   | none=>none
  | _=>none
 | _=>none
def lnC (K:KL) (p:Op):Option (Nat × Value):=match p with
 | .call ⟨.builtin .len,⟨[x]⟩,⟨[t]⟩⟩=>match kev K x with
  | some v=>some (t,v)
  | none=>none
 | _=>none
def ixC (K:KL) (p:Op):Option (Nat × Value × IntKind × Int):=match p with
 | .indexAddr t x i=>match kev K x with
  | some v=>match kev K i with
   | some (.int k m)=>some (t,v,k,m)
   | _=>none
  | none=>none
 | _=>none
def caC (K:KL) (p:Op):Option (Nat × List Value):=match p with
 | .call ⟨.value (.func f),xs,_⟩=>match kevs K xs.toList with
  | some vs=>some (f,vs)
  | none=>none
 | _=>none
section
variable {P:Program} {N:Nat} {K:KL} {o:Oper} {w:World}
theorem faC_of {t f b off:Nat} (h:faC K o.op = some (t,f,b,off)):∃ x,o.op = .fieldAddr t x f ∧ kev K x = some (.pointer (some ⟨b,off,none⟩)):=by
 unfold faC at h
 split at h
 ·rename_i t' x f' ho
  split at h
  ·rename_i b' off' hx
   simp only [Option.some.injEq,Prod.mk.injEq] at h
   obtain ⟨rfl,rfl,rfl,rfl⟩:=h
   exact ⟨x,ho,hx⟩
  ·cases h
 ·cases h
theorem ldC_of {t b off:Nat} (h:ldC K o.op = some (t,b,off)):∃ x,o.op = .load t x ∧ kev K x = some (.pointer (some ⟨b,off,none⟩)):=by
 unfold ldC at h
 split at h
 ·rename_i t' x ho
  split at h
  ·rename_i b' off' hx
   simp only [Option.some.injEq,Prod.mk.injEq] at h
   obtain ⟨rfl,rfl,rfl⟩:=h
   exact ⟨x,ho,hx⟩
  ·cases h
 ·cases h
theorem stC_of {t b off:Nat} {v:Value} (h:stC K o.op = some (t,b,off,v)):∃ x y,o.op = .store t x y ∧ kev K x = some (.pointer (some ⟨b,off,none⟩)) ∧ kev K y = some v:=by
 unfold stC at h
 split at h
 ·rename_i t' x y ho
  split at h
  ·rename_i b' off' hx
   split at h
   ·rename_i v' hy
    simp only [Option.some.injEq,Prod.mk.injEq] at h
    obtain ⟨rfl,rfl,rfl,rfl⟩:=h
    exact ⟨x,y,ho,hx,hy⟩
   ·cases h
  ·cases h
 ·cases h
theorem lnC_of {t:Nat} {v:Value} (h:lnC K o.op = some (t,v)):∃ x,o.op = .call { callee:=.builtin .len,args:=#[x],argTypes:=#[t] } ∧ kev K x = some v:=by
 unfold lnC at h
 split at h
 ·rename_i x t' ho
  split at h
  ·rename_i v' hx
   simp only [Option.some.injEq,Prod.mk.injEq] at h
   obtain ⟨rfl,rfl⟩:=h
   exact ⟨x,ho,hx⟩
  ·cases h
 ·cases h
theorem ixC_of {t:Nat} {v:Value} {k:IntKind} {m:Int} (h:ixC K o.op = some (t,v,k,m)):∃ x i,o.op = .indexAddr t x i ∧ kev K x = some v ∧ kev K i = some (.int k m):=by
 unfold ixC at h
 split at h
 ·rename_i t' x i ho
  split at h
  ·rename_i v' hx
   split at h
   ·rename_i k' m' hi
    simp only [Option.some.injEq,Prod.mk.injEq] at h
    obtain ⟨rfl,rfl,rfl,rfl⟩:=h
    exact ⟨x,i,ho,hx,hi⟩
   ·cases h
  ·cases h
 ·cases h
theorem caC_of {f:Nat} {vs:List Value} (h:caC K o.op = some (f,vs)):∃ xs ts,o.op = .call { callee:=.value (.func f),args:=xs,argTypes:=ts } ∧ kevs K xs.toList = some vs:=by
 unfold caC at h
 split at h
 ·rename_i f' xs ts ho
  split at h
  ·rename_i vs' hx
   simp only [Option.some.injEq,Prod.mk.injEq] at h
   obtain ⟨rfl,rfl⟩:=h
   exact ⟨xs,ts,ho,hx⟩
  ·cases h
 ·cases h
theorem yfa {t f b off fo:Nat} (h:faC K o.op = some (t,f,b,off)) (hf:fieldOff P t f = some fo):Yld P N K o w (.pointer (some ⟨b,off + fo,none⟩)):=by
 obtain ⟨x,ho,hx⟩:=faC_of h; exact yld_fieldAddr ho hf hx
theorem ylb {t b off:Nat} {us:List Value} {T:TypeId} {u:Value} (h:ldC K o.op = some (t,b,off)) (ha:aggB P t = some false) (hb:Box w b us T) (hu:us[off]? = some u):Yld P N K o w u:=by
 obtain ⟨x,ho,hx⟩:=ldC_of h; exact yld_load1 off ho ha hx hb.cells (Nat.zero_add _).symm hu
theorem ylc (j:Nat) {t b off o0:Nat} {us:List Value} {u:Value} (h:ldC K o.op = some (t,b,off)) (ha:aggB P t = some false) (hcs:CellsAt w b o0 us) (hj:off = o0 + j) (hu:us[j]? = some u):Yld P N K o w u:=by
 obtain ⟨x,ho,hx⟩:=ldC_of h; exact yld_load1 j ho ha hx hcs hj hu
theorem ynb {t b:Nat} {us:List Value} {T:TypeId} (h:ldC K o.op = some (t,b,0)) (ha:aggB P t = some true) (hb:Box w b us T) (hn:cellsN P t = some us.length):Yld P N K o w (.agg us.toArray):=by
 obtain ⟨x,ho,hx⟩:=ldC_of h; exact yld_loadN ho ha hx hb.cells hn
theorem yln {t b off:Nat} {us:List Value} (h:ldC K o.op = some (t,b,off)) (ha:aggB P t = some true) (hc:CellsAt w b off us) (hn:cellsN P t = some us.length):Yld P N K o w (.agg us.toArray):=by
 obtain ⟨x,ho,hx⟩:=ldC_of h; exact yld_loadN ho ha hx hc hn
section
variable {α:Type} {c:Cod α} {xs:List α} {S:Nat → Prop} {v:Value} {e:TypeId} {B:Nat}
theorem yle {t:Nat} (h:lnC K o.op = some (t,v)) (hu:P.underlying t = some (.slice e)) (hs:slRep c w S xs v):Yld P N K o w (.int .i64 xs.length):=by
 obtain ⟨x,ho,hx⟩:=lnC_of h; exact ye_len ho hu hx hs
theorem ylo {t:Nat} (h:lnC K o.op = some (t,v)) (hu:P.underlying t = some (.slice e)) (hs:ownR c w B S e xs v):Yld P N K o w (.int .i64 xs.length):=by
 obtain ⟨x,ho,hx⟩:=lnC_of h; exact yld_len_own ho hu hx hs
theorem yix {y:α} {t:Nat} {k:IntKind} {m:Int} (h:ixC K o.op = some (t,v,k,m)) (hu:P.underlying t = some (.slice e)) (hc:cellsN P e = some c.n) (hs:slRep c w S xs v) (hg:getI xs m = some y) :
 YE P N K o w (fun u=>∃ b off us,u = .pointer (some ⟨b,off,none⟩) ∧ S b ∧ c.rep w S y us ∧ CellsAt w b off us):=by
 obtain ⟨x,i,ho,hx,hi⟩:=ixC_of h; exact ye_index ho hu hc hx hi hs hg
theorem yio {y:α} {t:Nat} {k:IntKind} {m:Int} (h:ixC K o.op = some (t,v,k,m)) (hu:P.underlying t = some (.slice e)) (hc:cellsN P e = some c.n) (hs:ownR c w B S e xs v) (hg:getI xs m = some y) :
 YE P N K o w (fun u=>∃ g us,u = .pointer (some ⟨g,0 + m.toNat * c.n,none⟩) ∧ v.ownBlock = some g ∧ c.rep w S y us ∧ CellsAt w g (0 + m.toNat * c.n) us):=by
 obtain ⟨x,i,ho,hx,hi⟩:=ixC_of h; exact ye_index_own ho hu hc hx hi hs hg
end
theorem eca {f:Nat} {vs:List Value} {R:Value → World → Prop} (h:caC K o.op = some (f,vs)) (hf:goFn P f = true) (hc:Calls P f vs.toArray w (Ret R)):Eff P N K o w R:=by
 obtain ⟨xs,ts,ho,hx⟩:=caC_of h; exact eff_call ho hf hx hc
theorem est {t b off:Nat} {v:Value} {cur:List Value} {e:TypeId} (h:stC K o.op = some (t,b,off,v)) (hb:Box w b cur e) (hn:cellsN P t = some v.cells.toList.length)
 (h1:v.cells.toList.all Value.oneCell' = true) (hfit:Nat.ble (off + v.cells.toList.length) cur.length = true) :
 Eff P N K o w (fun _ w'=>Upd b w w' ∧ Box w' b (cur.take off ++ v.cells.toList ++ cur.drop (off + v.cells.toList.length)) e):=by
 obtain ⟨x,y,ho,hx,hy⟩:=stC_of h; exact eff_store ho hx hy hb hn h1 hfit
/-! ## Worlds, in fewer words -/
theorem Et {w a b:World} (h:Ext w a) (k:Ext a b):Ext w b ∧ a.heap.size ≤ b.heap.size:=⟨Ext.trans h k,k.size⟩
theorem Ebt {p:Nat → Prop} {w a b:World} (h:But p w a) (k:Ext a b):But p w b ∧ a.heap.size ≤ b.heap.size:=⟨But.ext h k,k.size⟩
theorem Kn.sub {K':KL} {a:Act} (h:Kn N K a) (e:K'.map (fun p=>kl K p.1) = K'.map (fun p=>some p.2)):Kn N K' a:=by
 refine h.weaken ?_
 induction K' with
 | nil=>trivial
 | cons p K' ih =>
  simp only [List.map_cons,List.cons.injEq] at e
  exact ⟨e.1,ih e.2⟩
theorem szs {α:Type} {x y:α} (h:some x = some y):x = y:=Option.some.inj h
theorem nos {α:Type} {x:α} {p:Prop} (h:none = some x):p:=by cases h
theorem Wc {α:Type} {c:Operand} {x y:Code} {t:Bool} {A B:Option α} {r:α} {Q:Exit → Act → World → Prop} (hc:kev K c = some (.bool t)) (hF:(bif t then A else B) = some r) (ht:A = some r → WC P N x Q K w) (hf:B = some r → WC P N y Q K w):WC P N (.cond c x y) Q K w :=
 WC.cond hc (fun h=>ht (bif_t h hF)) (fun h=>hf (bif_f h hF))
def resV (K:KL):List ResultVar → Option (List Value)
 | []=>some []
 | .tmp t :: rs=>match kl K t with
  | some v=>match resV K rs with
   | some vs=>some (v :: vs)
   | none=>none
  | none=>none
 | .cell _ _ :: _=>none
theorem resV_ok:∀ {rs:List ResultVar} {vs:List Value},resV K rs = some vs → resOK P K w rs vs
 | [],vs,h=>by obtain rfl:=Option.some.inj h; trivial
 | .tmp t :: rs,vs,h=>by
  unfold resV at h
  split at h
  ·rename_i v h1
   split at h
   ·rename_i vs' h2
    obtain rfl:=Option.some.inj h
    exact ⟨h1,resV_ok h2⟩
   ·cases h
  ·cases h
 | .cell _ _ :: _,vs,h=>by cases h
theorem Ne {fn:Func} {rs vs R} (hr:fn.results = List.toArray rs) (ho:resV K rs = some vs) (hR:R (.returned (oneOrTuple vs)) w):NX N (bodyPost P fn R) .ret K w:=NX.end hr (resV_ok ho) hR
theorem Nn {fn:Func} {rs vs R} (hr:fn.results = List.toArray rs) (ho:resV K rs = some vs) (hR:R (.returned (oneOrTuple vs)) w):NX N (bodyPost P fn R) .normal K w:=NX.end_n hr (resV_ok ho) hR
end
end Go.Eng
namespace Go.Eng
open Go Go.RowKit
theorem Eu {w a c:World} {b:Nat} (h:Ext w a) (hu:Upd b a c) (hb:w.heap.size ≤ b):Ext w c ∧ c.heap.size = a.heap.size:=⟨Below.trans h (Upd.below hu hb),hu.size⟩
theorem Ebu {p:Nat → Prop} {w a c:World} {b:Nat} (h:But p w a) (hu:Upd b a c) (hb:p b ∨ w.heap.size ≤ b):But p w c ∧ c.heap.size = a.heap.size:=⟨But.upd h hu hb,hu.size⟩
/-! ## What keeps slices apart -/
abbrev Nb (v:Value) (b:Nat):Prop:=∀ g,v.ownBlock = some g → g ≠ b
abbrev Ns (v:Value) (lo hi:Nat):Prop:=∀ g,v.ownBlock = some g → g < lo ∨ hi ≤ g
abbrev No (v u:Value):Prop:=∀ g q,v.ownBlock = some g → u.ownBlock = some q → g ≠ q
abbrev Bd (v:Value) (lo hi:Nat):Prop:=∀ q,v.ownBlock = some q → lo ≤ q ∧ q < hi
section
variable {v v' u:Value} {b lo hi lo' hi':Nat} {w w':World}
theorem Nb.of (h:Bd v lo hi) (k:b < lo ∨ hi ≤ b):Nb v b:=fun g hg=>by have:=h g hg; omega
theorem Ns.of (h:Bd v lo hi) (k:hi' ≤ lo ∨ hi ≤ lo'):Ns v lo' hi':=fun g hg=>by have:=h g hg; omega
theorem No.of (h:Bd v lo hi) (h':Bd u lo' hi') (k:hi ≤ lo' ∨ hi' ≤ lo):No v u:=fun g q hg hq=>by have:=h g hg; have:=h' q hq; omega
theorem No.symm (h:No v u):No u v:=fun g q hg hq e=>h q g hq hg e.symm
theorem Gb (h:Grew w w' v v') (k:Nb v b) (hb:b < w.heap.size):Nb v' b:=Grew.sepP (p:=fun g=>g ≠ b) h k (fun g hg=>by omega)
theorem Gs (h:Grew w w' v v') (k:Ns v lo hi) (hb:hi ≤ w.heap.size):Ns v' lo hi:=Grew.sepP (p:=fun g=>g < lo ∨ hi ≤ g) h k (fun g hg=>by omega)
theorem Ge (h:Ext w w') {w2:World} (hg:Grew w' w2 v v') (k:Bd v lo hi) (hl:w.heap.size ≤ lo):Ext w w2 ∧ w'.heap.size ≤ w2.heap.size:=⟨Below.trans h (Grew.low hg (fun g hg=>by have:=k g hg; omega) h.size),hg.1.size⟩
theorem Gd2 {α:Type} {c:Cod α} {B:Nat} {S:Nat → Prop} {e:TypeId} {zs:List α} (h:Grew w w' v v') (ho:ownR c w' B S e zs v') (k:Bd v lo hi) (hl:lo ≤ w.heap.size) (hh:hi ≤ w'.heap.size):Bd v' lo w'.heap.size:=Grew.bd h ho k hl hh
theorem ownR.bd {α:Type} {c:Cod α} {B:Nat} {S:Nat → Prop} {e:TypeId} {zs:List α} (ho:ownR c w B S e zs v):Bd v B w.heap.size:=ho.blk
end
end Go.Eng
namespace Go.Eng
open Go Go.RowKit
theorem slRep.oh {α:Type} {c:Cod α} {w w':World} {lo H:Nat} {xs:List α} {v:Value} (h:slRep c w (Iv lo H) xs v) (hH:H ≤ w.heap.size) (he:Ext w w'):slRep c w' (Iv lo H) xs v:=h.old he hH
end Go.Eng
namespace Go.Eng
open Go Go.RowKit
/-! ## Regions whose order is drawn, with guards -/
section
variable {P:Program} {N:Nat} {ops:Array Oper} {Q:Exit → Act → World → Prop} {n:Nat} {K:KL} {w w0:World} {f:Nat} {listed:Array Bool} {p:Nat → Prop}
theorem gdo_okD {o:Oper} {g:Gd} (h:gdo N ops K o = g) (hg:g ≠ .no):∀ t,o.dst = some t → Nat.blt t N = true:=okDst.h (gdo_dst h hg)
theorem HLy {o:Oper} {v:Value} (i:Nat) (hh:headB ops n = true) (hi:ops[i]? = some o) (hc:(Nat.blt i n && Region.free .any ops listed i && (Region.ready .any ops listed).contains i) = true) (h0:gdo N ops K o = .yes)
 (h:Yld P N K o w0 v) (k:HL P N ops n (noPan Q) w0 f (listed.setIfInBounds i true) (kput K o.dst v) w):HL P N ops n (noPan Q) w0 (f + 1) listed K w:=by
 intro inv hx a hK
 obtain ⟨hs,hn,ht⟩:=headB.spec hh
 simp only [Bool.and_eq_true] at hc
 have hin:i < n:=by have h2:=hc.1.1; simp [Nat.blt] at h2; omega
 have hr:i ∈ Region.ready .any ops listed:=by simpa using hc.2
 refine wpAnyT.first hi hin hn (Region.noSelect_spec hs) ht (fun c a w h=>h.elim) f listed a w inv (Region.free_spec hi hc.1.2) hr ?_ hx (k (inv.set hr hin) hx _ (hK.put (gdo_okD h0 (by simp))))
 exact .inl ⟨gdo_wanted h0 hK,fun w' hw'=>h a hK w' hw'⟩
theorem HLye {o:Oper} {Ψ:Value → Prop} (i:Nat) (hh:headB ops n = true) (hi:ops[i]? = some o) (hc:(Nat.blt i n && Region.free .any ops listed i && (Region.ready .any ops listed).contains i) = true) (h0:gdo N ops K o = .yes)
 (h:YE P N K o w0 Ψ) (k:∀ v,Ψ v → HL P N ops n (noPan Q) w0 f (listed.setIfInBounds i true) (kput K o.dst v) w):HL P N ops n (noPan Q) w0 (f + 1) listed K w:=by
 obtain ⟨v,h1,h2⟩:=h; exact HLy i hh hi hc h0 h1 (k v h2)
theorem HLk {o:Oper} (i:Nat) (hh:headB ops n = true) (hi:ops[i]? = some o) (hc:(Nat.blt i n && Region.free .any ops listed i && (Region.ready .any ops listed).contains i) = true) (h0:gdo N ops K o = .skip)
 (k:HL P N ops n (noPan Q) w0 f (listed.setIfInBounds i true) (kput K o.dst undef) w):HL P N ops n (noPan Q) w0 (f + 1) listed K w:=by
 intro inv hx a hK
 obtain ⟨hs,hn,ht⟩:=headB.spec hh
 simp only [Bool.and_eq_true] at hc
 have hin:i < n:=by have h2:=hc.1.1; simp [Nat.blt] at h2; omega
 have hr:i ∈ Region.ready .any ops listed:=by simpa using hc.2
 refine wpAnyT.first hi hin hn (Region.noSelect_spec hs) ht (fun c a w h=>h.elim) f listed a w inv (Region.free_spec hi hc.1.2) hr ?_ hx (k (inv.set hr hin) hx _ (hK.put (gdo_okD h0 (by simp))))
 exact .inr ⟨gdo_skip h0 hK,rfl⟩
theorem HKc (t:Nat) {b b':Bool} (e:b = b') (h:kl K t = some (.bool b)) (k:HL P N ops n Q w0 f listed ((t,.bool b') :: K) w):HL P N ops n Q w0 f listed K w:=fun inv hx a hK=>k inv hx a (hK.know h (by rw [e]))
theorem WC.heldD {id:Nat} {l:List Oper} (n:Nat) (hm:P.follows .mixedOrders = true) (hh:headB l.toArray n = true)
 (h:∀ w',Ext w w' → headB l.toArray n = true → HL P N l.toArray n (noPan Q) w' l.length (Array.replicate l.length false) K w'):WC P N (.region id l.toArray true) Q K w:=WC.held n hm fun w' hx=>h w' hx hh
def hck (ops:Array Oper) (n:Nat):List Nat → Array Bool → Bool
 | [],_=>true
 | i :: is,listed=>Nat.blt i n && Region.free .any ops listed i && (Region.ready .any ops listed).contains i && hck ops n is (listed.setIfInBounds i true)
end
section
variable (P:Program) (N:Nat) (ops:Array Oper) (n:Nat) (Q:Exit → Act → World → Prop) (w0:World)
def HRUN:List Nat → Nat → Array Bool → KL → World → Prop
 | []=>fun f listed K w=>HL P N ops n (noPan Q) w0 f listed K w
 | i :: is=>fun f listed K w=>match f with
  | 0=>False
  | f + 1=>match ops[i]? with
   | none=>False
   | some o=>match gdo N ops K o with
    | .yes=>match yq K o.op with
     | some v=>HRUN is f (listed.setIfInBounds i true) (kput K o.dst v) w
     | none=>False
    | .skip=>HRUN is f (listed.setIfInBounds i true) (kput K o.dst undef) w
    | .no=>False
end
section
variable {P:Program} {N:Nat} {ops:Array Oper} {Q:Exit → Act → World → Prop} {n:Nat} {w w0:World}
theorem Hr (hh:headB ops n = true):∀ (is:List Nat) {f:Nat} {listed:Array Bool} {K:KL},hck ops n is listed = true → HRUN P N ops n Q w0 is f listed K w → HL P N ops n (noPan Q) w0 f listed K w
 | [],_,_,_,_,h=>h
 | i :: is,0,listed,K,_,h=>h.elim
 | i :: is,f + 1,listed,K,hc,h=>by
  simp only [hck,Bool.and_eq_true] at hc
  have hc':(Nat.blt i n && Region.free .any ops listed i && (Region.ready .any ops listed).contains i) = true:=by simp only [Bool.and_eq_true]; exact hc.1
  simp only [HRUN] at h
  split at h
  ·exact h.elim
  ·rename_i o hi
   split at h
   ·rename_i hg
    split at h
    ·rename_i v hv; exact HLy i hh hi hc' hg (yq_ok hv) (Hr hh is hc.2 h)
    ·exact h.elim
   ·rename_i hg; exact HLk i hh hi hc' hg (Hr hh is hc.2 h)
   ·exact h.elim
end
end Go.Eng
namespace Go.Eng
open Go Go.RowKit
/-! ## Structs of plain fields, compared -/
def eqv (u v:Value):Option Bool:=match u with
 | .int k a=>match v with
  | .int k' b=>bif decide (k = k') then some (a == b) else none
  | _=>none
 | .bool a=>match v with
  | .bool b=>some (a == b)
  | _=>none
 | .string a=>match v with
  | .string b=>some (a.toList == b.toList)
  | _=>none
 | _=>none
def seqo:List Value → List Value → Option Bool
 | [],[]=>some true
 | u :: us,v :: vs=>match us with
  | []=>match vs with
   | []=>eqv u v
   | _=>none
  | _ :: _=>match eqv u v with
   | some r=>match seqo us vs with
    | some q=>some (r && q)
    | none=>none
   | none=>none
 | _,_=>none
def okF (P:Program):List Field → Nat → Bool
 | [],_=>true
 | f :: fs, i => f.name != "_" && Nat.beq f.offset i && (match P.underlying f.type with
  | some (.int _)=>true
  | some .bool=>true
  | some .string=>true
  | _=>false) && okF P fs (i + 1)
def eqSB (P:Program) (t:Nat) (n:Nat):Bool:=match P.underlying t with
 | some (.struct fs)=>okF P fs.toList 0 && Nat.beq fs.size n && !P.stoodInHeld t && !P.eqGuardType P.depth t
 | _=>false
section
variable {P:Program} {N:Nat} {K:KL} {o:Oper} {w:World}
theorem run_eqv {d t:Nat} {u v:Value} {r:Bool} (h:eqv u v = some r) (ht:(match P.underlying t with
 | some (.int _)=>true
 | some .bool=>true
 | some .string=>true
 | _=>false) = true) (hty:∀ k,P.underlying t = some (.int k) → ∃ k' a,u = .int k' a) (htb:P.underlying t = some .bool → ∃ a,u = .bool a) (hts:P.underlying t = some .string → ∃ a,u = .string a) :
 (Op.equalIn (d + 1) t u v).run P w = .ok r w:=by
 split at ht
 ·rename_i k hu
  obtain ⟨k',a,rfl⟩:=hty k hu
  unfold eqv at h
  cases v <;> simp only [reduceCtorEq] at h
  rename_i k2 b
  by_cases hk:k' = k2
  ·subst hk
   rw [decide_eq_true rfl,cond_true] at h
   obtain rfl:=Option.some.inj h
   exact run_equalIn_int w d t k' k a b hu
  ·rw [decide_eq_false hk] at h; cases h
 ·rename_i hu
  obtain ⟨a,rfl⟩:=htb hu
  unfold eqv at h
  cases v <;> simp only [reduceCtorEq] at h
  obtain rfl:=Option.some.inj h
  exact run_equalIn_bool' w d t _ _ hu
 ·rename_i hu
  obtain ⟨a,rfl⟩:=hts hu
  unfold eqv at h
  cases v <;> simp only [reduceCtorEq] at h
  obtain rfl:=Option.some.inj h
  exact run_equalIn_string w d t _ _ hu
 ·cases ht
def okC (P:Program):List Field → List Value → Bool
 | [],[]=>true
 | f :: fs,u :: us=>(match P.underlying f.type with
  | some (.int _)=>match u with
   | .int _ _=>true
   | _=>false
  | some .bool=>match u with
   | .bool _=>true
   | _=>false
  | some .string=>match u with
   | .string _=>true
   | _=>false
  | _=>false) && okC P fs us
 | _,_=>false
theorem run_eqFields {d:Nat} {xs ys:Array Value}:∀ (fs:List Field) (i:Nat) (us vs:List Value) (r:Bool),okF P fs i = true → okC P fs us = true → xs.toList.drop i = us → ys.toList.drop i = vs → seqo us vs = some r → (Op.eqFields (d + 1) xs ys fs).run P w = .ok r w
 | [],i,us,vs,r,_,h2,_,_,h5=>by
  cases us with
  | nil =>
   cases vs with
   | nil=>simp [seqo] at h5; subst h5; simp [Op.eqFields]
   | cons _ _=>simp [seqo] at h5
  | cons _ _=>simp [okC] at h2
 | f :: fs,i,us,vs,r,h1,h2,h3,h4,h5=>by
  cases us with
  | nil=>simp [okC] at h2
  | cons u us =>
   cases vs with
   | nil=>cases us <;> simp [seqo] at h5
   | cons v vs =>
    simp only [okF,Bool.and_eq_true,bne_iff_ne,ne_eq] at h1
    obtain ⟨⟨⟨hn,ho⟩,ht⟩,h1⟩:=h1
    have ho:f.offset = i:=Nat.eq_of_beq_eq_true ho
    simp only [okC,Bool.and_eq_true] at h2
    obtain ⟨hc,h2⟩:=h2
    have hxu:xs[f.offset]? = some u:=by
     rw [ho,← Array.getElem?_toList]
     have:=congrArg (fun l:List Value=>l[0]?) h3
     simpa using this
    have hyv:ys[f.offset]? = some v:=by
     rw [ho,← Array.getElem?_toList]
     have:=congrArg (fun l:List Value=>l[0]?) h4
     simpa using this
    have ha:aggB P f.type = some false:=by
     unfold aggB
     split at ht <;> first | (rename_i hu; rw [hu]) | cases ht
    have e3:xs.toList.drop (i + 1) = us:=by
     rw [← List.drop_drop,h3]; rfl
    have e4:ys.toList.drop (i + 1) = vs:=by
     rw [← List.drop_drop,h4]; rfl
    have key:∀ r0,eqv u v = some r0 → (Op.equalIn (d + 1) f.type u v).run P w = .ok r0 w:=by
     intro r0 hr0
     refine run_eqv hr0 ht ?_ ?_ ?_
     ·intro k hu; rw [hu] at hc; cases u <;> simp at hc; exact ⟨_,_,rfl⟩
     ·intro hu; rw [hu] at hc; cases u <;> simp at hc; exact ⟨_,rfl⟩
     ·intro hu; rw [hu] at hc; cases u <;> simp at hc; exact ⟨_,rfl⟩
    have step:∀ r0 q,eqv u v = some r0 → (Op.eqFields (d + 1) xs ys fs).run P w = .ok q w → (Op.eqFields (d + 1) xs ys (f :: fs)).run P w = .ok (r0 && q) w:=by
     intro r0 q hr0 hq
     have hk:=key r0 hr0
     simp only [Op.eqFields]
     rw [if_pos hn]
     simp only [Sem.run_bind,part,run_isAgg ha,Result.andThen_ok,Bool.false_eq_true,if_false,hxu,hyv,Sem.run_pure,hk]
     cases r0
     ·simp
     ·simp [hq]
    cases us with
    | nil =>
     cases vs with
     | nil =>
      simp only [seqo] at h5
      have:=step r true h5 (run_eqFields fs (i + 1) [] [] true h1 h2 e3 e4 rfl)
      simpa using this
     | cons _ _=>simp [seqo] at h5
    | cons u2 us2 =>
     simp only [seqo] at h5
     split at h5
     ·rename_i r0 hr0
      split at h5
      ·rename_i q hq
       obtain rfl:=Option.some.inj h5
       exact step r0 q hr0 (run_eqFields fs (i + 1) _ _ q h1 h2 e3 e4 hq)
      ·cases h5
     ·cases h5
def okCT (P:Program) (t:Nat) (us:List Value):Bool:=match P.underlying t with
 | some (.struct fs)=>okC P fs.toList us
 | _=>false
theorem run_eqS {t n:Nat} {us vs:List Value} {r:Bool} (hB:eqSB P t n = true) (hC:okCT P t us = true) (h:seqo us vs = some r) :
 (Op.equalIn 10000 t (.agg us.toArray) (.agg vs.toArray)).run P w = .ok r w ∧ P.eqGuardType P.depth t = false:=by
 unfold eqSB at hB
 unfold okCT at hC
 split at hB
 ·rename_i fs hu
  rw [hu] at hC
  simp only [Bool.and_eq_true,Bool.not_eq_true'] at hB
  obtain ⟨⟨⟨h1,h2⟩,h3⟩,h4⟩:=hB
  have hf:P.fieldsOf t = fs:=by unfold Program.fieldsOf; rw [hu]
  refine ⟨?_,h4⟩
  rw [show (10000:Nat) = 9998 + 1 + 1 from rfl,run_equalIn_struct w _ t _ _ (by rw [hf]; exact hu) h3,hf]
  exact run_eqFields fs.toList 0 us vs r h1 hC (by simp) (by simp) h
 ·cases hB
theorem yeS {t x y u n us vs r} (ho:o.op = .binOp .eql t x y u) (hx:kev K x = some (.agg (List.toArray us))) (hy:kev K y = some (.agg (List.toArray vs))) (hB:eqSB P t n = true) (hC:okCT P t us = true) (h:seqo us vs = some r):Yld P N K o w (.bool r):=by
 intro a hK w' _
 obtain ⟨h1,h2⟩:=run_eqS (w:=w') hB hC h
 have h3:=run_eqGuard_agg (P:=P) w' .eql t x y us.toArray vs.toArray h2
 have h4:(binOp .eql t (.agg us.toArray) (.agg vs.toArray)).run P w' = .ok (.bool r) w':=by rw [run_eql_struct,h1]; rfl
 simp only [execOp,ho,hK.ev hx,hK.ev hy,Sem.run_bind,h3,Result.andThen_ok,h4,Sem.run_pure]
end
end Go.Eng
namespace Go.Eng
open Go Go.RowKit
/-! ## Slices of slices of the call's own, each apart from the others -/
def own2 {α:Type} (c:Cod α) (w:World) (B hi:Nat) (e1 e2:TypeId) (xss:List (List α)) (v:Value) (vs:List Value):Prop :=
 w.ownsRow B e1 1 v xss.length vs ∧ (∀ (i:Nat) (xs:List α) (u:Value),xss[i]? = some xs → vs[i]? = some u → ownR c w B (Iv 0 0) e2 xs u ∧ Bd u B hi ∧ No v u) ∧ (∀ (i j:Nat) (u u':Value),i ≠ j → vs[i]? = some u → vs[j]? = some u' → No u u')
theorem ownsRow.keep {w w':World} {B n:Nat} {e:TypeId} {v:Value} {m:Nat} {cs:List Value} (h:w.ownsRow B e n v m cs) (hg:∀ g,v.ownBlock = some g → w'.heap[g]? = w.heap[g]?):w'.ownsRow B e n v m cs:=by
 obtain ⟨h1,h2⟩:=h
 refine ⟨h1,?_⟩
 rcases h2 with h2 | ⟨g,cap,cur,rfl,hb,hh,rest⟩
 ·exact .inl h2
 ·exact .inr ⟨g,cap,cur,rfl,hb,(hg g rfl).trans hh,rest⟩
section
variable {α:Type} {c:Cod α} [Flat c] {w w':World} {B hi:Nat} {e1 e2:TypeId} {xss:List (List α)} {v:Value} {vs:List Value}
theorem own2.keep (h:own2 c w B hi e1 e2 xss v vs) (h1:∀ g,v.ownBlock = some g → w'.heap[g]? = w.heap[g]?) (h2:∀ k,B ≤ k → k < hi → w'.heap[k]? = w.heap[k]?):own2 c w' B hi e1 e2 xss v vs:=by
 obtain ⟨a,b,d⟩:=h
 refine ⟨ownsRow.keep a h1,fun i xs u hx hu=>?_,d⟩
 obtain ⟨p,q,r⟩:=b i xs u hx hu
 exact ⟨p.keep (fun g hg=>h2 g (q g hg).1 (q g hg).2) (fun _ h=>h) (fun k h=>absurd h.2 (Nat.not_lt_zero k)),q,r⟩
theorem own2.blk (h:own2 c w B hi e1 e2 xss v vs):Bd v B w.heap.size:=h.1.lt
theorem own2.ext (h:own2 c w B hi e1 e2 xss v vs) (he:Ext w w') (hle:hi ≤ w.heap.size):own2 c w' B hi e1 e2 xss v vs :=
 h.keep (fun g hg=>he.block g (h.blk g hg).2) (fun k _ h=>he.block k (by omega))
theorem own2.upd {b:Nat} (h:own2 c w B hi e1 e2 xss v vs) (hu:Upd b w w') (hne:Nb v b) (hb:b < B ∨ hi ≤ b):own2 c w' B hi e1 e2 xss v vs :=
 h.keep (fun g hg=>hu.block g (hne g hg)) (fun k h1 h2=>hu.block k (by omega))
theorem own2.but {p:Nat → Prop} (h:own2 c w B hi e1 e2 xss v vs) (hb:But p w w') (hne:∀ k,p k → ∀ g,v.ownBlock = some g → k ≠ g) (hle:hi ≤ w.heap.size) (hs:∀ k,p k → k < B ∨ hi ≤ k):own2 c w' B hi e1 e2 xss v vs :=
 h.keep (fun g hg=>hb.block g (h.blk g hg).2 (fun e=>hne g e g hg rfl)) (fun k h1 h2=>hb.block k (by omega) (fun e=>by have:=hs k e; omega))
theorem elem1 {cs:List Value} {i:Nat} {u:Value} (h:cs[i]? = some u):elemCells cs 1 i = [u]:=by
 apply List.ext_getElem?
 intro q
 by_cases hq:q < 1
 ·obtain rfl:q = 0:=by omega
  rw [elemCells_get hq]; simpa using h
 ·rw [List.getElem?_eq_none (by simp [elemCells]; omega),List.getElem?_eq_none (by simp; omega)]
theorem own2.nil:own2 c w B hi e1 e2 ([]:List (List α)) (.slice none 0 0) []:=⟨World.ownsRow_nil w B e1 1,fun i xs u h=>by simp at h,fun i j u u' _ h=>by simp at h⟩
theorem own2.sub {m:Int} {xs:List α} {u:Value} (h:own2 c w B hi e1 e2 xss v vs) (hy:getI xss m = some xs) (hu:vs[m.toNat]? = some u):ownR c w B (Iv 0 0) e2 xs u ∧ Bd u B hi ∧ No v u:=h.2.1 _ _ _ (getI_lt hy).2.2 hu
end
section
variable {P:Program} {N:Nat} {α:Type} {c:Cod α} [Flat c] {w:World} {B hi:Nat} {e1 e2:TypeId} {xss:List (List α)} {v:Value} {vs:List Value} {o:Oper} {K:KL}
end
end Go.Eng
namespace Go.Eng
open Go Go.RowKit
end Go.Eng
namespace Go.Eng
open Go Go.RowKit
end Go.Eng
namespace Go.Eng
/-! ## Pointers that may be nil -/
end Go.Eng
namespace Go.Eng
end Go.Eng
namespace Go.Eng
open Go Go.RowKit
/-! ## Slices of which nothing is told -/
end Go.Eng
namespace Go
@[reducible] def Value.i (x:Int):Value:=.int .i64 x
end Go
namespace Go.Eng
open Go Go.RowKit
/-! ## Cells whose numbers may turn: what is written into them is not told -/
inductive SimV:Value → Value → Prop
 | refl (u:Value):SimV u u
 | int (k:IntKind) (m n:Int):SimV (.int k m) (.int k n)
 | bool (a b:Bool):SimV (.bool a) (.bool b)
 | str (a b:ByteArray):SimV (.string a) (.string b)
theorem SimV.trans {a b c:Value} (h:SimV a b) (k:SimV b c):SimV a c:=by
 cases h with
 | refl=>exact k
 | int kk m n=>cases k with
  | refl=>exact .int kk m n
  | int _ _ q=>exact .int kk m q
 | bool x y=>cases k with
  | refl=>exact .bool x y
  | bool _ q=>exact .bool x q
 | str x y=>cases k with
  | refl=>exact .str x y
  | str _ q=>exact .str x q
def SimL (us vs:List Value):Prop:=us.length = vs.length ∧ ∀ (j:Nat) (u v:Value),us[j]? = some u → vs[j]? = some v → SimV u v
theorem SimL.refl (us:List Value):SimL us us:=⟨rfl,fun j u v h k=>by rw [h] at k; obtain rfl:=Option.some.inj k; exact .refl _⟩
structure Sim (p:Nat → Prop) (w w':World):Prop where
 but:But p w w'
 cell:∀ b off u,w.cell? ⟨b,off,none⟩ = some u → ∃ u',w'.cell? ⟨b,off,none⟩ = some u' ∧ SimV u u'
 froz:∀ b off,b < w.heap.size → w.frozen? ⟨b,off,none⟩ = false → w'.frozen? ⟨b,off,none⟩ = false
section
variable {p q:Nat → Prop} {w a c:World}
theorem Sim.refl (p:Nat → Prop) (w:World):Sim p w w:=⟨But.refl p w,fun _ _ u h=>⟨u,h,.refl _⟩,fun _ _ _ h=>h⟩
theorem Sim.ofBut (h:But p w a) (hb:∀ k,k < w.heap.size → a.heap[k]? = w.heap[k]?):Sim p w a :=
 ⟨h,fun b off u hu=>⟨u,by rw [World.cell?_of_block (w:=w) (hb b (World.block_lt_of_cell? _ _ hu))]; exact hu,.refl _⟩,fun b off hl hf=>by rw [frozen_of_block (hb b hl)]; exact hf⟩
theorem Sim.then (h:Sim p w a) (k:Sim q a c) (hb:But p w c):Sim p w c :=
 ⟨hb,fun b off u hu=>by
  obtain ⟨u1,h1,h2⟩:=h.cell b off u hu
  obtain ⟨u2,h3,h4⟩:=k.cell b off u1 h1
  exact ⟨u2,h3,h2.trans h4⟩,fun b off hl hf=>k.froz b off (Nat.lt_of_lt_of_le hl h.but.size) (h.froz b off hl hf)⟩
theorem Sim.ext (h:Sim p w a) (he:Ext a c):Sim p w c :=
 h.then (q:=fun _=>False) (Sim.ofBut ⟨he.os,he.tape,he.output,he.size,fun k hk _=>he.block k hk⟩ fun k hk=>he.block k hk) (h.but.ext he)
theorem Sim.upd {b:Nat} (h:Sim p w a) (hu:Upd b a c) (hb:w.heap.size ≤ b):Sim p w c :=
 ⟨h.but.upd hu (.inr hb),fun d off u hd=>by
  obtain ⟨u1,h1,h2⟩:=h.cell d off u hd
  have:=World.block_lt_of_cell? _ _ hd
  exact ⟨u1,by rw [World.cell?_of_block (w:=a) (hu.block d (by show d ≠ b; have:d < w.heap.size:=this; omega))]; exact h1,h2⟩,fun d off hl hf=>by
  rw [frozen_of_block (hu.block d (by omega))]; exact h.froz d off hl hf⟩
end
theorem CellsAt.cons {w:World} {b off:Nat} {u:Value} {us:List Value} (h:CellsAt w b off (u :: us)):(w.cell? ⟨b,off,none⟩ = some u ∧ w.frozen? ⟨b,off,none⟩ = false) ∧ CellsAt w b (off + 1) us :=
 ⟨by have:=h 0 u rfl; rwa [Nat.add_zero] at this,fun j v hj=>by have:=h (j + 1) v (by simpa using hj); rwa [show off + (j + 1) = off + 1 + j by omega] at this⟩
theorem CellsAt.mk {w:World} {b off:Nat} {u:Value} {us:List Value} (h0:w.cell? ⟨b,off,none⟩ = some u ∧ w.frozen? ⟨b,off,none⟩ = false) (h:CellsAt w b (off + 1) us):CellsAt w b off (u :: us):=fun j v hj=>by
 cases j with
 | zero=>obtain rfl:u = v:=by simpa using hj
         rw [Nat.add_zero]; exact h0
 | succ j=>rw [show off + (j + 1) = off + 1 + j by omega]; exact h j v (by simpa using hj)
theorem SimL.one {u:Value} {vs:List Value} (h:SimL [u] vs):∃ v,vs = [v] ∧ SimV u v:=by
 obtain ⟨v,rfl⟩:=List.length_eq_one_iff.1 h.1.symm
 exact ⟨v,rfl,h.2 0 u v rfl rfl⟩
section
variable {P:Program} {N:Nat} {o:Oper} {K:KL} {w:World}
end
/-! ## Worlds, in fewer words -/
theorem nr {n:Nat}:n ≤ n:=Nat.le_refl n
end Go.Eng
namespace Go.Eng
open Go Go.RowKit
/-! ## Own slices of own slices: built by literals and appends, written by calls -/
def cRaw:Cod Value where
 n:=1
 rep:=fun _ _ x vs=>vs = [x] ∧ x.oneCell' = true
 len:=fun h=>by rw [h.1]; rfl
 one:=fun h=>by rw [h.1]; simp [h.2]
 mono:=fun h _ _=>h
instance:Flat cRaw:=⟨fun h=>h⟩
theorem raw_row {w:World} {B:Nat} {S:Nat → Prop} {e:TypeId} {vs:List Value} {v:Value} (h:ownR cRaw w B S e vs v):w.ownsRow B e 1 v vs.length vs:=by
 obtain ⟨cs,h1,h2⟩:=h
 have hl:cs.length = vs.length:=by have:=h1.1; simpa [cRaw] using this
 have e1:cs = vs:=by
  apply List.ext_getElem?
  intro i
  by_cases hi:i < vs.length
  ·have h3:=(h2 i vs[i] (List.getElem?_eq_getElem hi)).1
   have h4:(elemCells cs 1 i)[0]? = some vs[i]:=by rw [show elemCells cs 1 i = [vs[i]] from h3]; rfl
   rw [elemCells_get (by omega)] at h4
   rw [List.getElem?_eq_getElem hi,← h4]; congr 1; omega
  ·rw [List.getElem?_eq_none (by omega),List.getElem?_eq_none (by omega)]
 rw [e1] at h1; exact h1
section
variable {α:Type} {c:Cod α} [Flat c] {w w':World} {B B1 B2 hi lo1 hi1 lo2 hi2:Nat} {S:Nat → Prop} {e1 e2:TypeId} {xss:List (List α)} {xs ys:List α} {v u t:Value} {vs:List Value}
theorem own2.raw (h:own2 c w B hi e1 e2 xss v vs):ownR cRaw w B (Iv 0 0) e1 vs v:=by
 have hl:vs.length = xss.length:=by have:=h.1.1; omega
 have h1:=h.1
 rw [← hl] at h1
 refine ⟨vs,h1,fun i x hx=>⟨elem1 hx,?_⟩⟩
 have hi:i < xss.length:=by have:=(List.getElem?_eq_some_iff.1 hx).1; omega
 exact (h.2.1 i _ x (List.getElem?_eq_getElem hi) hx).1.one
theorem own2.of (h:ownR cRaw w B S e1 vs v) (hl:vs.length = xss.length) (hin:∀ (i:Nat) (xs:List α) (u:Value),xss[i]? = some xs → vs[i]? = some u → ownR c w B (Iv 0 0) e2 xs u ∧ Bd u B hi ∧ No v u)
 (hd:∀ (i j:Nat) (u u':Value),i ≠ j → vs[i]? = some u → vs[j]? = some u' → No u u'):own2 c w B hi e1 e2 xss v vs:=by
 have h1:=raw_row h
 rw [hl] at h1
 exact ⟨h1,hin,hd⟩
theorem own2.base {B':Nat} (h:own2 c w B hi e1 e2 xss v vs) (hB:B' ≤ B):own2 c w B' hi e1 e2 xss v vs:=by
 refine own2.of (ownR.base h.raw hB) (by have:=h.1.1; omega) (fun i xs u hx hu=>?_) h.2.2
 obtain ⟨p,q,r⟩:=h.2.1 i xs u hx hu
 exact ⟨p.base hB,fun g hg=>by have:=q g hg; omega,r⟩
theorem own2.put {m:Int} {zs:List α} (h:own2 c w B hi e1 e2 xss v vs) (hy:getI xss m = some xs) (hu:vs[m.toNat]? = some u) (hb:But (pO u) w w') (hle:hi ≤ w.heap.size) (ho:ownR c w' B1 (Iv 0 0) e2 zs u) (hB:B ≤ B1):own2 c w' B hi e1 e2 (xss.set m.toNat zs) v vs:=by
 obtain ⟨_,hbu,hvu⟩:=h.sub hy hu
 obtain ⟨a,b,d⟩:=h
 refine ⟨?_,fun i x t hx ht=>?_,d⟩
 ·rw [List.length_set]
  exact ownsRow.keep a (fun g hg=>hb.block g (a.lt g hg).2 (fun e=>hvu g g hg e rfl))
 ·rcases set_get hx with ⟨rfl,rfl⟩ | ⟨hne,hx3⟩
  ·obtain rfl:u = t:=Option.some.inj (hu.symm.trans ht)
   exact ⟨ho.base hB,hbu,hvu⟩
  ·obtain ⟨p,q,r⟩:=b i x t hx3 ht
   exact ⟨p.keep (fun g hg=>hb.block g (by have:=q g hg; omega) (fun e=>d m.toNat i u t hne hu ht g g e hg rfl)) (fun _ h=>h) (fun k h=>absurd h.2 (Nat.not_lt_zero k)),q,r⟩
end
section
variable {P:Program} {N:Nat} {K:KL} {o:Oper} {α:Type} {c:Cod α} [Flat c] {w:World} {B hi B2 hi2:Nat} {e1 e2:TypeId} {xss yss zss:List (List α)} {v u:Value} {vs us:List Value}
end
end Go.Eng
namespace Go.Eng
open Go Go.RowKit
/-! ## A slice that is handed over to grow -/
def Gr (w:World) (v v':Value):Prop:=∀ g,v'.ownBlock = some g → v.ownBlock = some g ∨ w.heap.size ≤ g
theorem Gr.refl (w:World) (v:Value):Gr w v v:=fun g hg=>.inl hg
theorem Grew.of {w w':World} {v v':Value} (h:But (pO v) w w') (g:Gr w v v'):Grew w w' v v' :=
 ⟨⟨h.os,h.tape,h.output,h.size,fun k hk hne=>h.block k hk (fun e=>hne e.symm)⟩,g⟩
end Go.Eng
namespace Go.Eng
open Go Go.RowKit
/-! ## The end of an own slice, that may grow -/
def ownQ {α:Type} (c:Cod α) (w:World) (B:Nat) (e:TypeId) (xs:List α) (v:Value):Prop :=
 ∃ cs,cs.length = xs.length * c.n ∧ (∀ i x,xs[i]? = some x → c.rep w (Iv 0 0) x (elemCells cs c.n i)) ∧
  (v = .slice none 0 0 ∧ xs.length = 0 ∨ ∃ g off cap cur,v = .slice (some ⟨g,off,none⟩) xs.length cap ∧ B ≤ g ∧ w.heap[g]? = some (.cells cur e (0,0)) ∧ xs.length ≤ cap ∧ cap ≤ maxLen ∧ off + cap * c.n ≤ cur.size ∧ (cur.toList.drop off).take (xs.length * c.n) = cs)
section
variable {α:Type} {c:Cod α} {w w':World} {B:Nat} {e:TypeId} {xs zs:List α} {v u:Value}
theorem ownQ.of (h:ownR c w B (Iv 0 0) e xs v):ownQ c w B e xs v:=by
 obtain ⟨cs,⟨hl,h1⟩,h3⟩:=h
 refine ⟨cs,hl,h3,?_⟩
 rcases h1 with h1 | ⟨g,cap,cur,rfl,a1,a2,a3,a4,a5,a6⟩
 ·exact .inl h1
 ·exact .inr ⟨g,0,cap,cur,rfl,a1,a2,a3,a4,by omega,by simpa using a6⟩
theorem ownQ.blk (h:ownQ c w B e xs v):Bd v B w.heap.size:=by
 obtain ⟨cs,_,_,⟨rfl,_⟩ | ⟨g,off,cap,cur,rfl,a1,a2,_⟩⟩:=h
 ·intro g hg; cases hg
 ·intro q hq
  simp [Value.ownBlock] at hq; subst hq
  exact ⟨a1,(Array.getElem?_eq_some_iff.1 a2).1⟩
theorem ownQ.base {B':Nat} (h:ownQ c w B e xs v) (hB:B' ≤ B):ownQ c w B' e xs v:=by
 obtain ⟨cs,h1,h2,h3⟩:=h
 refine ⟨cs,h1,h2,?_⟩
 rcases h3 with h3 | ⟨g,off,cap,cur,a0,a1,rest⟩
 ·exact .inl h3
 ·exact .inr ⟨g,off,cap,cur,a0,by omega,rest⟩
theorem ownQ.keep [Flat c] (h:ownQ c w B e xs v) (hg:∀ g,v.ownBlock = some g → w'.heap[g]? = w.heap[g]?):ownQ c w' B e xs v:=by
 obtain ⟨cs,h1,h2,h3⟩:=h
 refine ⟨cs,h1,fun i x hx=>Flat.any (h2 i x hx),?_⟩
 rcases h3 with h3 | ⟨g,off,cap,cur,rfl,a1,a2,rest⟩
 ·exact .inl h3
 ·exact .inr ⟨g,off,cap,cur,rfl,a1,(hg g rfl).trans a2,rest⟩
theorem ownQ.ext [Flat c] (h:ownQ c w B e xs v) (he:Ext w w'):ownQ c w' B e xs v:=h.keep (fun g hg=>he.block g (h.blk g hg).2)
theorem ownQ.upd [Flat c] {b:Nat} (h:ownQ c w B e xs v) (hu:Upd b w w') (hne:Nb v b):ownQ c w' B e xs v:=h.keep (fun g hg=>hu.block g (hne g hg))
theorem ownQ.butF [Flat c] {p:Nat → Prop} (h:ownQ c w B e xs v) (hb:But p w w') (hne:∀ k,p k → ∀ g,v.ownBlock = some g → k ≠ g):ownQ c w' B e xs v:=h.keep (fun g hg=>hb.block g (h.blk g hg).2 (fun e=>hne g e g hg rfl))
theorem ownQ.sl [Flat c] {S:Nat → Prop} (h:ownQ c w B e xs v) (hb:∀ g,v.ownBlock = some g → S g):slRep c w S xs v:=by
 obtain ⟨cs,hl,h3,⟨rfl,hn⟩ | ⟨g,off,cap,cur,rfl,_,hh,h5,h6,h7,h8⟩⟩:=h
 ·have:xs = []:=List.eq_nil_of_length_eq_zero hn
  subst this; exact slRep.nil _ _ _
 ·refine ⟨some ⟨g,off,none⟩,cap,rfl,⟨h5,fun h=>by cases h⟩,by simpa [maxLen] using h6,fun hpos=>⟨g,off,rfl,hb g rfl,fun i x hx=>⟨_,Flat.any (h3 i x hx),fun j u hu=>?_⟩⟩⟩
  have hjn:j < c.n:=by
   have:=(List.getElem?_eq_some_iff.1 hu).1
   simp [elemCells] at this; omega
  have hi:i < xs.length:=(List.getElem?_eq_some_iff.1 hx).1
  rw [elemCells_get hjn,← h8,List.getElem?_take] at hu
  split at hu
  ·rw [List.getElem?_drop] at hu
   have e1:off + i * c.n + j = off + (i * c.n + j):=by omega
   rw [e1]
   refine ⟨?_,by simp [World.frozen?,hh]⟩
   have hu2:cur[off + (i * c.n + j)]? = some u:=by simpa using hu
   rw [cell_of_row w g _ cur e (0,0) hh]; exact hu2
  ·cases hu
theorem ownQ.slf [Flat c] {lo hi:Nat} (h:ownQ c w B e xs v) (h1:lo ≤ B) (h2:w.heap.size ≤ hi):slRep c w (Iv lo hi) xs v:=h.sl (fun g hg=>by have:=h.blk g hg; exact ⟨by omega,by omega⟩)
theorem ownQ.slb [Flat c] {lo hi:Nat} (h:ownQ c w B e xs v) (hb:Bd v lo hi):slRep c w (Iv lo hi) xs v:=h.sl hb
def Suf {α:Type} (c:Cod α) (v u:Value) (xs zs:List α):Prop:=(∀ (w:World) (B:Nat) (e:TypeId),ownQ c w B e xs v → ownQ c w B e zs u) ∧ ∀ g,u.ownBlock = some g → v.ownBlock = some g
theorem Suf.mk' {k cap:Nat} {a:Option Addr} (hk:k ≤ xs.length) (hcap:xs.length ≤ cap) (ha:a = none → cap = 0) (hsp:∀ ad,a = some ad → ad.spot = none):Suf c (.slice a xs.length cap) (.slice (if cap = k then a else a.map (·.add (k * c.n))) (xs.length - k) (cap - k)) xs (xs.drop k):=by
 have hzl:(xs.drop k).length = xs.length - k:=by simp
 refine ⟨fun w B e h=>?_,fun g hg=>?_⟩
 ·obtain ⟨cs,hl,h3,h4⟩:=h
  have hkn:k * c.n ≤ xs.length * c.n:=Nat.mul_le_mul_right _ hk
  refine ⟨cs.drop (k * c.n),by rw [List.length_drop,hl,hzl,Nat.sub_mul],fun i x hx=>?_,?_⟩
  ·rw [List.getElem?_drop] at hx
   have:=h3 _ _ hx
   have e1:elemCells (cs.drop (k * c.n)) c.n i = elemCells cs c.n (k + i):=by
    unfold elemCells; rw [List.drop_drop]; congr 2; rw [Nat.add_mul]
   rw [e1]; exact this
  ·rcases h4 with ⟨h5,hn⟩ | ⟨g,off,cap2,cur,h5,a1,a2,a3,a4,a5,a6⟩
   ·injection h5 with h6 h7 h8
    subst h6 h8
    left
    refine ⟨by simp; omega,by rw [hzl]; omega⟩
   ·injection h5 with h6 h7 h8
    subst h6 h8
    right
    by_cases hc:cap = k
    ·subst hc
     have hx:xs.length = cap:=by omega
     refine ⟨g,off,0,cur,by rw [hzl]; simp,a1,a2,by rw [hzl]; omega,by simp [maxLen],by omega,?_⟩
     rw [hzl,← a6,hx]; simp
    ·refine ⟨g,off + k * c.n,cap - k,cur,by rw [hzl,if_neg hc]; simp [addr_add],a1,a2,by rw [hzl]; omega,by omega,?_,?_⟩
     ·rw [Nat.sub_mul]; have:k * c.n ≤ cap * c.n:=Nat.mul_le_mul_right _ (by omega)
      omega
     ·rw [hzl,← a6,← List.drop_drop,List.drop_take,Nat.sub_mul]
 ·cases a with
  | none=>split at hg <;> simp [Value.ownBlock] at hg
  | some ad =>
   split at hg
   ·exact hg
   ·simp only [Option.map_some,Value.ownBlock] at hg ⊢
    rw [← hg]; congr 1
    obtain ⟨b,of,sp⟩:=ad
    unfold Addr.add; split <;> rfl
section
variable {P:Program} {N:Nat} {K:KL} {o:Oper} {S:Nat → Prop}
theorem ownQ.spot (h:ownQ c w B e xs v):∀ ad n cap,v = .slice (some ad) n cap → ad.spot = none:=by
 obtain ⟨_,_,_,⟨rfl,_⟩ | ⟨g,off,cap,cur,rfl,_⟩⟩:=h
 ·intro ad n cap h; cases h
 ·intro ad n cap h; injection h with h; injection h with h; subst h; rfl
variable {ys:List α}
end
end
end Go.Eng
namespace Go.Eng
open Go Go.RowKit
/-! ## Short words for the plain texts -/
theorem obs {α β:Type} {a:α} {f:α → Option β}:Option.bind (some a) f = f a:=rfl
theorem cT {α:Type} {x y:α}:(bif true then x else y) = x:=rfl
theorem cF {α:Type} {x y:α}:(bif false then x else y) = y:=rfl
theorem wT (i:Nat) (h:i < 4611686018427387904:=by omega):IntKind.wrap IntKind.i64 ((i:Int) + 1) = ((i + 1:Nat):Int):=wSE h
theorem szt {α:Type} {a r:α} (h:some a = some r):r = a:=(Option.some.inj h).symm
theorem bft (b:Bool):b = true ∨ b = false:=Bool.eq_false_or_eq_true b
end Go.Eng
namespace Go.Eng
open Go Go.RowKit
/-! ## Parts of an own slice: its beginning, its end, and clear -/
def fromV (v:Value) (i n:Nat):Value:=match v with
 | .slice a m cap=>.slice (if cap = i then a else a.map (·.add (i * n))) (m - i) (cap - i)
 | v=>v
section
variable {α:Type} {c:Cod α} {w w':World} {B:Nat} {S:Nat → Prop} {e:TypeId} {xs zs:List α} {v u:Value}
theorem Gr.cut {w:World} {v v':Value} {m:Nat} (h:Gr w v v'):Gr w v (cutV v' m):=fun g hg=>h g (by rwa [cutV_own] at hg)
section
variable {P:Program} {N:Nat} {K:KL} {o:Oper}
theorem ye_cut {t x hi k2 m2} (ho:o.op = .slice t x none (some hi) none) (hu:P.underlying t = some (.slice e)) (hc:cellsN P e = some c.n) (hx:kev K x = some v) (h2:kev K hi = some (.int k2 m2))
 (hs:ownR c w B S e xs v) (hz:subL xs 0 m2 = some zs):YE P N K o w (fun u=>u = cutV v m2.toNat ∧ zs = xs.take m2.toNat ∧ ownR c w B S e zs u):=by
 have hs0:=hs
 obtain ⟨cs,⟨hl,h1⟩,h3⟩:=hs
 unfold subL at hz
 split at hz
 ·rename_i hb
  injection hz with hz; subst hz
  have he:(xs.take m2.toNat).drop (0:Int).toNat = xs.take m2.toNat:=by simp
  rw [he]
  have hcut:=hs0.cut (m:=m2.toNat) (by omega)
  obtain ⟨i,hi2,hsz⟩:=Option.map_eq_some_iff.1 hc
  rcases h1 with ⟨rfl,h0⟩ | ⟨g,cap,cur,rfl,a1,a2,a3,a4,a5,a6⟩
  ·have hm0:m2 = 0:=by omega
   subst hm0
   refine ⟨.slice none 0 0,fun a' hK w' he=>?_,rfl,rfl,hcut⟩
   have e1:(Instr.sliceBound (.int k2 0) 0 .sliceAcap).run P w' = .ok (0:Int).toNat w':=sliceBound_in (by omega) (by omega)
   simp [execOp,ho,hK.ev hx,hK.ev h2,Instr.sliceAt,Instr.slice,run_underlying hu,Instr.sliceBounds,e1,sizeOf,typeInfo,hi2,hsz]
  ·refine ⟨.slice (some ⟨g,0,none⟩) m2.toNat cap,fun a' hK w' he=>?_,rfl,rfl,hcut⟩
   have e1:(Instr.sliceBound (.int k2 m2) cap .sliceAcap).run P w' = .ok m2.toNat w':=sliceBound_in (by omega) (by omega)
   simp [execOp,ho,hK.ev hx,hK.ev h2,Instr.sliceAt,Instr.slice,run_underlying hu,Instr.sliceBounds,e1,sizeOf,typeInfo,hi2,hsz,addr_add]
 ·cases hz
theorem ye_sliceT {t x lo k1 m1} (ho:o.op = .slice t x (some lo) none none) (hu:P.underlying t = some (.slice e)) (hc:cellsN P e = some c.n) (hx:kev K x = some v) (h1:kev K lo = some (.int k1 m1))
 (hs:slRep c w S xs v) (hz:subL xs m1 xs.length = some zs) (hp:∀ ad n cap,v = .slice (some ad) n cap → ad.spot = none):YE P N K o w (fun u=>slRep c w S zs u ∧ Suf c v u xs zs ∧ u = fromV v m1.toNat c.n):=by
 obtain ⟨a,cap,rfl,g1,g3,g4⟩:=hs
 unfold subL at hz
 split at hz
 ·rename_i hb
  injection hz with hz; subst hz
  obtain ⟨i,hi2,hsz⟩:=Option.map_eq_some_iff.1 hc
  refine ⟨_,fun a' hK w' he=>?_,slice_of (e:=e) g1 g3 g4 hb.1 hb.2.1 hb.2.2,?_,?_⟩
  ·have e2:(Instr.sliceBound (.int k1 m1) xs.length .sliceB).run P w' = .ok m1.toNat w':=sliceBound_in (by omega) (by omega)
   simp [execOp,ho,hK.ev hx,hK.ev h1,Instr.sliceAt,Instr.slice,run_underlying hu,Instr.sliceBounds,e2,sizeOf,typeInfo,hi2,hsz]
  ·have e3:(xs.take ((xs.length:Int)).toNat).drop m1.toNat = xs.drop m1.toNat:=by simp
   rw [e3]
   have:=Suf.mk' (c:=c) (xs:=xs) (k:=m1.toNat) (cap:=cap) (a:=a) (by omega) g1.1 g1.2 (fun ad h=>hp ad _ _ (by rw [h]))
   simpa using this
  ·simp [fromV]
 ·cases hz
theorem eff_clear_tail {t x zs sz by' yz} {i:Nat} [Flat c] (ho:o.op = .call { callee:=.builtin .clear,args:=#[x],argTypes:=#[t] }) (hu:P.underlying t = some (.slice e)) (hi:infoN P e = some (zs,sz,by')) (hx:kev K x = some u) (hv:u = fromV v i c.n) (hs:ownR c w B (Iv 0 0) e xs v)
 (hsz:sz = c.n) (hpos:Nat.blt 0 c.n = true) (hone:zs.all Value.oneCell' = true) (hz:c.rep w (Iv 0 0) yz zs):Eff P N K o w (fun _ w'=>But (pO v) w w' ∧ ownR c w' B (Iv 0 0) e (xs.take i ++ List.replicate (xs.length - i) yz) v):=by
 have hp:0 < c.n:=by have h:=hpos; simp [Nat.blt] at h; omega
 subst hv
 have hs0:=hs
 obtain ⟨cs,h0,h3⟩:=hs
 unfold infoN at hi
 obtain ⟨ti,hi1,hi2⟩:=Option.bind_eq_some_iff.1 hi
 obtain ⟨zv,hz1,hz2⟩:=Option.map_eq_some_iff.1 hi2
 simp only [Prod.mk.injEq] at hz2
 obtain ⟨e1,e2,e3⟩:=hz2
 have hzl:zs.length = c.n:=c.len hz
 by_cases hfull:xs.length ≤ i
 ·have hz0:xs.length - i = 0:=by omega
  intro a hK Kt Q hk
  have hr:(execOp a.eval o).run P w = .ok (.value (.tuple #[])) w:=by
   obtain ⟨hl,⟨rfl,h00⟩ | ⟨g,cap,cur,rfl,_⟩⟩:=h0
   ·simp [execOp,ho,resolve,invoke,builtin,hK.ev hx,fromV,Builtin.clear_,run_underlying hu]
   ·by_cases q:cap = i <;> simp [execOp,ho,resolve,invoke,builtin,hK.ev hx,fromV,q,hz0,Addr.add_lit,Builtin.clear_,run_underlying hu]
  unfold Oper.wp
  rw [hr]
  refine hk _ _ ⟨But.refl _ w,?_⟩
  rw [hz0,List.take_of_length_le hfull]; simpa using hs0
 ·obtain ⟨hl,⟨rfl,hn⟩ | ⟨g,cap,cur,rfl,a1,a2,a3,a4,a5,a6⟩⟩:=h0
  ·omega
  have hne:¬ cap = i:=by omega
  have hx':kev K x = some (.slice (some ⟨g,0 + i * c.n,none⟩) (xs.length - i) (cap - i)):=by
   rw [hx]; simp only [fromV,if_neg hne,Option.map_some,addr_add]
  have hlen:(Builtin.zeroCells zv.cells (xs.length - i)).toList.length = (xs.length - i) * c.n:=by
   rw [Array.length_toList,size_zeroCells]
   have:zv.cells.size = c.n:=by rw [← hzl,← e1]; simp
   rw [this]
  have hvs:(Builtin.zeroCells zv.cells (xs.length - i)).toList = (madeCells zs.toArray ((xs.length - i) * zs.length)).toList:=by
   rw [← e1]; rfl
  have hsum:i * c.n + (xs.length - i) * c.n = xs.length * c.n:=by rw [← Nat.add_mul]; congr 1; omega
  have hcapn:xs.length * c.n ≤ cap * c.n:=Nat.mul_le_mul_right _ a3
  have hone':∀ q ∈ (Builtin.zeroCells zv.cells (xs.length - i)).toList,q.oneCell' = true:=by
   intro q hq
   obtain ⟨j,hj,rfl⟩:=List.getElem_of_mem hq
   have hz0:zv.cells.size = c.n:=by rw [← hzl,← e1]; simp
   have:(Builtin.zeroCells zv.cells (xs.length - i)).toList[j] ∈ zs:=by
    simp only [Builtin.zeroCells,Array.toList_map,Array.toList_range,List.getElem_map,List.getElem_range]
    have hm:j % zv.cells.size < zv.cells.size:=Nat.mod_lt _ (by omega)
    rw [getElem!_pos zv.cells _ hm,← e1]
    exact Array.getElem_mem_toList hm
   exact List.all_eq_true.1 hone _ this
  have hst:=run_storeCells_at P g (0 + i * c.n) e (Builtin.zeroCells zv.cells (xs.length - i)).toList 0 cur w a2 (by rw [hlen]; omega) hone'
  simp only [Nat.zero_add,Nat.add_zero] at hst
  intro a hK Kt Q hk
  have hn0:xs.length - i ≠ 0:=by omega
  have hr:(execOp a.eval o).run P w = .ok (.value (.tuple #[])) (w.setRow g (cur.toList.take (i * c.n) ++ (Builtin.zeroCells zv.cells (xs.length - i)).toList ++ cur.toList.drop (i * c.n + (Builtin.zeroCells zv.cells (xs.length - i)).toList.length)).toArray):=by
   obtain ⟨n',hn'⟩:∃ n',xs.length - i = n' + 1:=⟨xs.length - i - 1,by omega⟩
   rw [hn'] at hst hx' ⊢
   simp only [Nat.zero_add] at hx'
   simp [execOp,ho,resolve,invoke,builtin,hK.ev hx',Builtin.clear_,run_underlying hu,zeroValue,typeInfo,hi1,hz1,hst]
  unfold Oper.wp
  rw [hr]
  have hU:=Upd.setRow w g (cur.toList.take (i * c.n) ++ (Builtin.zeroCells zv.cells (xs.length - i)).toList ++ cur.toList.drop (i * c.n + (Builtin.zeroCells zv.cells (xs.length - i)).toList.length)).toArray
  have hcl:cur.toList.length = cap * c.n:=by rw [Array.length_toList]; exact a5
  have hcs:cur.toList.take (i * c.n) = cs.take (i * c.n):=by rw [← a6,List.take_take]; congr 1; omega
  refine hk _ _ ⟨(But.refl (pO _) w).upd hU (.inl rfl),cs.take (i * c.n) ++ (Builtin.zeroCells zv.cells (xs.length - i)).toList,⟨?_,.inr ⟨g,cap,_,?_,a1,setRow_heap w g cur _ e _ a2,?_,a4,?_,?_⟩⟩,fun q x hx2=>?_⟩
  ·rw [List.length_append,List.length_append,List.length_replicate,List.length_take,hlen,List.length_take,hl,show min i xs.length = i by omega,show min (i * c.n) (xs.length * c.n) = i * c.n by omega,Nat.add_mul]
  ·rw [List.length_append,List.length_replicate,List.length_take]; congr 1; omega
  ·rw [List.length_append,List.length_replicate,List.length_take]; omega
  ·simp only [List.size_toArray,List.length_append,List.length_take,List.length_drop,hlen,hcl]; omega
  ·rw [List.length_append,List.length_replicate,List.length_take,List.toList_toArray,hcs]
   have:(min i xs.length + (xs.length - i)) * c.n = (cs.take (i * c.n) ++ (Builtin.zeroCells zv.cells (xs.length - i)).toList).length:=by
    rw [List.length_append,List.length_take,hlen,hl,show min i xs.length = i by omega,show min (i * c.n) (xs.length * c.n) = i * c.n by omega,Nat.add_mul]
   rw [this]; exact List.take_left
  ·have hlc:(cs.take (i * c.n)).length = i * c.n:=by rw [List.length_take,hl]; omega
   by_cases hq:q < i
   ·rw [List.getElem?_append_left (by rw [List.length_take]; omega),List.getElem?_take_of_lt hq] at hx2
    have h9:=h3 q x hx2
    have e4:elemCells (cs.take (i * c.n) ++ (Builtin.zeroCells zv.cells (xs.length - i)).toList) c.n q = elemCells cs c.n q:=by
     apply List.ext_getElem?
     intro j
     by_cases hj:j < c.n
     ·have:(q + 1) * c.n ≤ i * c.n:=Nat.mul_le_mul_right _ hq
      rw [Nat.add_mul] at this
      rw [elemCells_get hj,elemCells_get hj,List.getElem?_append_left (by rw [hlc]; omega),List.getElem?_take_of_lt (by omega)]
     ·rw [List.getElem?_eq_none (by simp [elemCells]; omega),List.getElem?_eq_none (by simp [elemCells]; omega)]
    rw [e4]; exact Flat.any h9
   ·rw [List.getElem?_append_right (by rw [List.length_take]; omega),List.getElem?_replicate] at hx2
    split at hx2
    ·rename_i hlt
     rw [List.length_take] at hlt
     obtain rfl:=Option.some.inj hx2
     have e4:elemCells (cs.take (i * c.n) ++ (Builtin.zeroCells zv.cells (xs.length - i)).toList) c.n q = zs:=by
      have hme:=elemCells_made (zs:=zs) (k:=xs.length - i) (i:=q - i) (by omega) (by omega)
      rw [← hvs,hzl] at hme
      rw [← hme]
      apply List.ext_getElem?
      intro j
      by_cases hj:j < c.n
      ·have h5:i * c.n ≤ q * c.n:=Nat.mul_le_mul_right _ (by omega)
       rw [elemCells_get hj,elemCells_get hj,List.getElem?_append_right (by rw [hlc]; omega),hlc]
       congr 1
       rw [Nat.sub_mul]; omega
      ·rw [List.getElem?_eq_none (by simp [elemCells]; omega),List.getElem?_eq_none (by simp [elemCells]; omega)]
     rw [e4]; exact Flat.any hz
    ·cases hx2
end
end
end Go.Eng
