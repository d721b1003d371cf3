/-
  Part of the proof of DrawViews.
-/
import Derived.WalkKit
import Derived.Orders
import Derived.RangeFuncIn
import Derived.RangeFuncRecord
import Derived.RangeFuncLeaves
import Derived.RangeFuncSeq
import Derived.Scope
import Derived.Shelf.Strings.Builder1
set_option maxRecDepth 100000
set_option maxHeartbeats 20000000
set_option linter.all false
open Go Go.RowKit Go.Proofs
namespace Trn
def bf:= @of_decide_eq_true
def bP:= @of_decide_eq_false
def bD:= @decide_eq_true
def bV:= @Bool.and_eq_true
def eJ:= @List.take_of_length_le
def bM:= @List.mem_cons
def cr:= @decide_eq_false
def bC:= @Nat.le_refl
def fC:= @List.mem_cons_of_mem
def jB:= @Int.mul_le_mul_of_nonneg_left
def db:= @List.all_eq_true
def bp:= @Int.mul_add
def gy:= @List.getD_eq_getElem?_getD
def fB:= @Nat.eq_of_beq_eq_true
def gk:= @Int.eq_ofNat_of_zero_le
def eE:= @Go.Result.andThen_ok
def gj:= @Nat.le_of_ble_eq_true
def iG:= @List.getElem?_eq_some_iff
def gi:= @Array.length_toList
def fj:= @Option.some.inj
def fA:= @Nat.min_eq_left
def kb:= @List.getElem?_eq_getElem
def eS:= @Int.mul_assoc
def fW:= @List.length_map
def gY:= @Bool.not_eq_true'
def eN:= @Go.Sem.run_bind
def kE:= @decide_eq_false_iff_not
def fc:= @Nat.le_trans
def iu:= @Int.mul_left_comm
def jd:= @Int.natAbs_natCast
def jJ:= @decide_eq_true_iff
def fH:= @Int.le_of_lt
def nF:= @Classical.byContradiction
def iF:= @List.drop_drop
def rT:= @List.eq_nil_of_length_eq_zero
def mI:= @Nat.mul_le_mul_right
def tE:= @Int.mul_le_mul_of_nonneg_right
def fU:= @cond_false
def nE:= @Nat.ble_eq_true_of_le
def tD:= @Int.sign_eq_neg_one_of_neg
def fT:= @cond_true
def mH:= @List.getElem?_map
def lN:= @List.mem_append
def nD:= @Nat.lt_of_lt_of_le
def jI:= @Nat.lt_or_ge
def mG:= @List.length_drop
def jc:= @Nat.zero_le
def rR:= @Int.sign_eq_one_of_pos
def wM:= @Array.getElem?_eq_some_iff
def wL:= @List.getElem?_append_left
def mY:= @Bool.or_eq_true
def qA:= @Int.emod_lt_of_pos
def tC:= @List.mem_of_mem_take
def tz:= @Int.ofNat_eq_natCast
def kD:= @Int.add_mul
def uR:= @Array.getElem?_toList
def uQ:= @List.length_replicate
def ou:= @List.length_set
def wK:= @List.drop_of_length_le
def Aq:= @List.getElem?_append_right
def uP:= @Nat.pow_le_pow_right
def qz:= @List.getElem_mem
def rQ:= @List.append_assoc
def wJ:= @List.contains_iff_mem
def mF:= @List.mem_map
def lX:= @Int.mul_sub
def wI:= @Bool.or_eq_false_iff
def qy:= @Int.ediv_nonneg
def pt:= @Go.run_underlying
def pr:= @Nat.mul_le_mul
def uO:= @List.mem_singleton
def yI:= @List.take_append_drop
def yH:= @Int.emod_add_mul_ediv
def BQ:= @List.drop_eq_getElem_cons
def rP:= @Int.emod_nonneg
def qx:= @Int.mul_nonneg
def qw:= @Int.natAbs_mul
def pq:= @Bool.true_and
def uN:= @Int.lt_trichotomy
def yG:= @List.mem_of_mem_drop
def DO:= @Array.getD_eq_getD_getElem?
def ot:= @Go.Sem.run_pure
def oq:= @getElem!_pos
def wH:= @Nat.eq_zero_or_pos
def Ap:= @List.mem_append_right
def tx:= @Go.Oper.upon_value
def rO:= @Go.heap_alloc_new
def tw:= @Int.natCast_mul
def wG:= @decide_eq_true_eq
def om:= @Nat.add_mul
def yF:= @List.getElem?_drop
def tv:= @List.drop_take
def po:= @Int.mul_one
def tu:= @Nat.add_assoc
def uM:= @List.take_take
def oj:= @bne_iff_ne
def Ao:= @List.getElem?_take
def yE:= @List.drop_append
def yD:= @List.not_mem_nil
def BP:= @beq_eq_false_iff_ne
def vC:= @Rat.divInt_eq_div
def rA:= @List.mem_range
def oI:= @Nat.mul_comm
def rz:= @List.all_cons
def vB:= @List.append_nil
def EI:= @Array.getElem?_eq_getElem
def B8:= @Array.getElem?_modify
def xC:= @List.drop_length
def tH:= @List.map_cons
def qa:= @Nat.pow_add
def B7:= @List.mem_append_left
def B6:= @List.mem_of_getElem?
def vA:= @Go.Oper.upon_skip
def vz:= @Int.mul_le_mul
def xB:= @Option.map_some
def B5:= @List.length_pos_iff
def tG:= @Nat.add_zero
def EH:= @List.getElem?_set_self
def ID:= @Int.fdiv_eq_ediv_of_nonneg
def zC:= @Nat.mod_eq_of_lt
def zB:= @decide_eq_decide
def zA:= @Int.ediv_le_self
def B4:= @Bool.false_eq_true
def xA:= @List.drop_zero
def vy:= @Nat.zero_add
def zz:= @List.nil_append
def zy:= @Rat.num_eq_zero
def zx:= @Bool.decide_and
def B3:= @Int.emod_eq_of_lt
def IC:= @Go.World.putObj_heap_other
def EG:= @Nat.mul_le_mul_left
def B2:= @Nat.le_add_right
def B1:= @List.isEmpty_iff
def tF:= @Nat.mod_lt
def vx:= @Nat.le_succ
def vw:= @Nat.one_mul
def xz:= @List.map_set
def Ma:= @Int.gcd_pos_of_ne_zero_left
def EF:= @Nat.lt_of_le_of_lt
def xy:= @Prod.ext_iff
def B0:= @List.mem_filter
def BZ:= @Go.Oper.upon_enter
def BY:= @List.length_nil
def BX:= @Array.size_ofFn
def IB:= @Int.ediv_lt_of_lt_mul
def BW:= @Int.mul_ne_zero
def L9:= @Array.toList_setIfInBounds
def L8:= @List.getElem?_zip_eq_some
def IA:= @List.contains_eq_mem
def L7:= @List.pairwise_iff_getElem
def L6:= @Int.lt_of_mul_lt_mul_left
def xx:= @Nat.log2_lt
def EE:= @Option.getD_some
def L5:= @List.getElem?_take_of_lt
def zw:= @Int.mul_zero
def Iz:= @List.take_replicate
def BV:= @Bool.false_or
def xw:= @beq_iff_eq
def ED:= @Nat.two_pow_pos
def L4:= @Go.World.putObj_heap_same
def L3:= @List.length_eq_one_iff
def Iy:= @List.size_toArray
def Ix:= @List.ext_getElem?
def EC:= @List.drop_left
def L2:= @Array.getElem?_append
def BU:= @Nat.add_comm
def L1:= @List.getElem?_eq_none
def EB:= @Int.natAbs_neg
def BS:= @Nat.pow_succ
def EA:= @Bool.false_and
def Ez:= @Rat.mkRat_self
def Iw:= @List.take_append
def Iv:= @List.any_eq_true
def Iu:= @Go.Lib.cell_of_heap
def L0:= @BitVec.ofInt_natCast
def LZ:= @List.take_succ_cons
def LY:= @List.drop_set_of_lt
def It:= @List.foldl_cons
def Ey:= @Bool.true_or
def Ex:= @Nat.le_of_lt
def LX:= @List.map_replicate
def Ew:= @Nat.gcd_comm
def Ev:= @Int.add_zero
def LW:= @Bool.not_eq_false'
def LV:= @BitVec.toNat_ofNat
def LU:= @Int.mul_right_comm
def Is:= @Bool.and_false
def Ir:= @Rat.num_divInt
def Iq:= @Rat.den_divInt
def Eu:= @Go.setRow_heap
def Ip:= @Bool.and_true
def LS:= @List.cons_append
def LR:= @beq_self_eq_true
def BR:= @Go.wpIn_mono
def Io:= @List.map_map
def Im:= @Int.zero_mul
def LQ:= @List.all_append
def LP:= @UInt8.toNat_inj
def LO:= @List.take_left
def LN:= @List.take_succ
def LM:= @Bool.not_false
def Il:= @Rat.neg_num
def Ik:= @Rat.neg_den
def RH:= @Rat.sub_eq_add_neg
def LL:= @Prod.mk.injEq
def RG:= @Array.toList_ofFn
def LK:= @List.map_nil
def LJ:= @Nat.zero_mul
abbrev ard:=List
abbrev atg:=Option
abbrev apT:=World
abbrev apU:=Value
abbrev arc:=Operand
abbrev aq9:=TypeId
abbrev arb:=Program
abbrev ath:=Array
abbrev HV:=Nat->atg Obj
class DR where
 on:Bool
def DR.m[D:DR](w:apT):Nat:=cond D.on w.drawn 0
abbrev DR.strict:DR:=⟨true⟩
instance DR.lax:DR:=⟨false⟩
abbrev GN[D:DR](w w':apT):Prop:=DR.m w<=DR.m w'
def GN.of[D:DR]{w w':apT}(h:w.drawn<=w'.drawn):GN w w':=by
 unfold GN DR.m;cases D.on
 ·exact bC _
 ·exact h
class OI[D:DR]:Prop where
 off:D.on=false
def GN.ane[D:DR][T:OI]{w w':apT}:GN w w':=by
 unfold GN DR.m;rw[T.off];exact bC _
instance: @OI DR.lax:= @OI.mk DR.lax rfl
def HV.le(H H':HV):Prop:=∀r o,H r=some o->H' r=some o
def HV.le.refl(H:HV):HV.le H H:=fun _ _ h=>h
def HV.le.trans{A B C:HV}(h:HV.le A B)(k:HV.le B C):HV.le A C:=fun r o x=>k r o<|h r o x
def Bw:ath apU:=((List.range 20).map fun i=>Value.int .u64<|10^i).toArray
def Ea(P:arb)(T:aq9)(o:atg Obj):Prop:=match P.underlying T with
 |some (.int k)=>∃m E fr,o=some (.cells #[.int k m] E fr)
 |some (.array 20 _)=>∃E fr,o=some (.cells Bw E fr)
 |_=>True
def pI(P:arb)(H:HV):Prop:=∀g T,(P.globals[g]?).map (·.type)=some T->Ea P T (H g)
def pI.mono{P:arb}{H H':HV}(h:HV.le H H')(k:pI P H):pI P H':=fun g T e=>by
 have:=k g T e;unfold Ea at this⊢;split
 ·rename_i hu;rw[hu] at this;obtain⟨m,E,fr,e⟩:=this;exact⟨m,E,fr,h _ _ e⟩
 ·rename_i hu;rw[hu] at this;obtain⟨E,fr,e⟩:=this;exact⟨E,fr,h _ _ e⟩
 ·trivial
structure aq(P:arb) where
 w:apT
 X:Nat->Prop
 rd:atg Nat
 QS:Bool
 ds:ard Deferred
 lo:Nat
 ako:lo<=w.heap.size
 anm:∀k,X k->lo<=k
section
variable{P:Program}
def UR:Nat->Prop:=fun _=>False
def aq.call(P:arb)(w:apT):aq P:=⟨w,UR,none,false,[],w.heap.size,bC _,fun _ h=>h.elim⟩
def aq.n(b:aq P):Nat:=b.w.heap.size
def aq.mg(b:aq P)(k:Nat):Prop:=b.n<=k\/b.X k
def aq.xp{b:aq P}{k:Nat}(h:b.mg k):b.lo<=k:=h.elim (fun h=>fc b.ako h)<|b.anm k
def aq.lo_le{b:aq P}:b.lo<=b.n:=b.ako
end
section
variable{P:Program}
variable[D:DR]
variable{w:apT}{b:aq P}
structure E0(n:Nat)(w w':apT):Prop extends Below n w w' where
 drawn:GN w w'
structure zM(w w':apT)(row:atg Nat):Prop extends w.grownBy w' row where
 drawn:GN w w'
def E0.refl(n:Nat)(w:apT):E0 n w w:=⟨Below.refl _ _,bC _⟩
def E0.alloc{w:apT}(o:Obj):E0 w.heap.size w (w.alloc o):=⟨(Below.refl _ _).alloc (bC _) _,bC _⟩
def zM.setRow(w:apT)(b:Nat)(cs:ath apU):zM w (w.setRow b cs) (some b):=⟨⟨rfl,rfl,rfl,by simp,fun k _ hk=>setRow_other w b k _ (fun e=>hk (by rw[e]))⟩,bC _⟩
structure Kept(b:aq P)(w:apT):Prop where
 os:w.os=b.w.os
 tape:w.tape=b.w.tape
 output:w.output=b.w.output
 drawn:GN b.w w
 size:b.n<=w.heap.size
 block:b.QS=false->∀k,k<b.n-> ¬b.X k->w.heap[k]? =b.w.heap[k]?
def Kept.step{w':apT}(h:Kept b w)(k:E0 w.heap.size w w'):Kept b w':=
 ⟨k.os.trans h.os,k.tape.trans h.tape,k.output.trans h.output,fc h.drawn k.drawn,fc h.size k.size,fun hv i hi hx=>(k.block i<|nD hi h.size).trans<|h.block hv i hi hx⟩
def Kept.AN{w':apT}{row:atg Nat}(h:Kept b w)(g:zM w w' row)(hr:∀k,row=some k->b.mg k):Kept b w':=
 ⟨g.os.trans h.os,g.tape.trans h.tape,g.output.trans h.output,fc h.drawn g.drawn,fc h.size g.size,fun hv i hi hx=>(g.block i (nD hi h.size) (fun e=>by
  rcases hr i e.symm with h1|h1
  ·omega
  ·exact hx h1)).trans<|h.block hv i hi hx⟩
def Kept.below(h:Kept b w)(hX:b.X=UR)(hv:b.QS=false):E0 b.w.heap.size b.w w:=⟨⟨h.os,h.tape,h.output,h.size,fun k hk=>h.block hv k hk (by rw[hX];exact fun h=>h)⟩,h.drawn⟩
end
section
variable{P:Program}
variable{H:HV}{v:apU}{H':HV}
def grow(H:HV)(w w':apT):HV:=fun r=>if r<w.heap.size then H r else w'.heap[r]?
def JF:Bool->ath apU->apU
 |true,cs=> .agg cs
 |false,cs=>cs.getD 0 undef
structure Shape(n:Nat)(agg:Bool)(v:apU):Prop where
 size:v.cells.size=n
 cell:∀c∈v.cells.toList,c.oneCell'=true
 eq:v=JF agg v.cells
def Shape.one(h:v.oneCell'=true):Shape 1 false v:=by
 have hc:v.cells= #[v]:=by cases v<;>first|rfl|simp[Value.oneCell'] at h
 refine⟨by simp[hc],by simp[hc,h],by simp[hc,JF]⟩
structure Ty where
 n:Nat
 agg:Bool
 ok:HV->apU->Prop
 mono:∀{H H':HV} {v:apU},HV.le H H'->ok H v->ok H' v
 shape:∀{H:HV} {v:apU},ok H v->Shape n agg v
def WE(v:apU)(h:v.oneCell'=true):Ty where
 n:=1
 agg:=false
 ok:=fun _ x=>x=v
 mono:=fun _ h=>h
 shape:=fun e=>by subst e;exact Shape.one h
def TI(k:IntKind)(n:Int):Ty:=WE (.int k n) rfl
def aY(b:Bool):Ty:=WE (.bool b) rfl
def UK(s:ByteArray):Ty:=WE (.string s) rfl
@[simp] theorem adA{k:IntKind}{n:Int}:(TI k n).ok H v↔v= .int k n:=Iff.rfl
@[simp] theorem ams{b:Bool}:(aY b).ok H v↔v= .bool b:=Iff.rfl
@[simp] theorem am2{b:ByteArray}:(UK b).ok H v↔v= .string b:=Iff.rfl
def uD(H:HV):ard Ty->ard apU->Prop
 |[],cs=>cs=[]
 |τ::l,cs=>∃v rest,cs=v.cells.toList++rest/\τ.ok H v/\uD H l rest
def cw(l:ard Ty):Nat:=(l.map (·.n)).sum
@[simp] theorem Wv:cw []=0:=rfl
@[simp] theorem KF(τ:Ty)(l:ard Ty):cw (τ::l)=τ.n+cw l:=by simp[cw]
def ta{H H':HV}(h:HV.le H H'):∀{l:ard Ty} {cs:ard apU},uD H l cs->uD H' l cs
 |[],_,e=>e
 |_::_,_,⟨v,rest,e,hv,hr⟩=>⟨v,rest,e,Ty.mono _ h hv,ta h hr⟩
def nB{H:HV}:∀{l:ard Ty} {cs:ard apU},uD H l cs->cs.length=cw l
 |[],_,e=>by subst e;rfl
 |τ::l,_,⟨v,rest,e,hv,hr⟩=>by
  subst e;have:=nB hr;have hs:=(τ.shape hv).size;simp[this,hs]
def vT{H:HV}:∀{l:ard Ty} {cs:ard apU},uD H l cs->∀c∈cs,c.oneCell'=true
 |[],_,e=>by subst e;simp
 |τ::l,_,⟨v,rest,e,hv,hr⟩=>by
  subst e;intro c hc;rcases lN.1 hc with h|h
  ·exact(τ.shape hv).cell c h
  ·exact vT hr c h
def uC{H:HV}:∀{l:ard Ty} {cs:ard apU} {l':ard Ty} {AA:ard apU},uD H l cs->uD H l' AA->uD H (l++l') (cs++AA)
 |[],_,_,_,e,h=>by subst e;simpa using h
 |_::_,_,_,_,⟨v,rest,e,hv,hr⟩,h=>by
  subst e;exact⟨v,_,by simp,hv,uC hr h⟩
def nL{H:HV}:∀{l:ard Ty} {cs:ard apU} {i:Nat} {τ:Ty},uD H l cs->l[i]? =some τ->
  cw (l.take i)+τ.n<=cs.length/\τ.ok H (JF τ.agg ((cs.drop<|cw<|l.take i).take τ.n).toArray)
 |[],_,i,_,_,h=>by simp at h
 |σ::l,_,0,τ,⟨v,rest,e,hv,hr⟩,h=>by
  simp at h;subst h;subst e;have hs:=σ.shape hv;refine⟨by simp[hs.size],?_⟩;have:(List.take σ.n<|v.cells.toList++rest).toArray=v.cells:=by
   rw[<-hs.size,<-gi,LO]
  simpa[this,<-hs.eq] using hv
 |σ::l,_,i+1,τ,⟨v,rest,e,hv,hr⟩,h=>by
  simp at h;subst e;have hs:=σ.shape hv;obtain⟨h1,h2⟩:=nL hr h;have hd:List.drop (σ.n+cw (List.take i l)) (v.cells.toList++rest)=List.drop (cw<|List.take i l) rest:=by
   rw[<-hs.size,<-gi,yE];simp
  refine⟨?_,?_⟩
  ·simp[hs.size];omega
  ·simp only[LZ,KF,hd];exact h2
def BH{H:HV}:∀{l:ard Ty} {cs:ard apU} {i:Nat} {τ σ:Ty} {x:apU},uD H l cs->l[i]? =some τ->σ.n=τ.n->σ.ok H x->
  uD H (l.set i σ) (cs.take (cw<|l.take i)++x.cells.toList++cs.drop (cw (l.take i)+τ.n))
 |[],_,i,_,_,_,_,h,_,_=>by simp at h
 |ρ::l,_,0,τ,σ,x,⟨v,rest,e,hv,hr⟩,h,hn,hx=>by
  simp at h;subst h;subst e;have hs:=ρ.shape hv;have hd:List.drop ρ.n (v.cells.toList++rest)=rest:=by
   rw[<-hs.size,<-gi,EC]
  simp only[List.set_cons_zero,List.take_zero,Wv,vy,zz,hd];exact⟨x,rest,rfl,hx,hr⟩
 |ρ::l,_,i+1,τ,σ,x,⟨v,rest,e,hv,hr⟩,h,hn,hx=>by
  simp at h;subst e;have hs:=ρ.shape hv;have ih:=BH hr h hn hx;have h1:List.take (ρ.n+cw (List.take i l)) (v.cells.toList++rest)=v.cells.toList++List.take (cw<|List.take i l) rest:=by
   rw[<-hs.size,<-gi,Iw];simp[eJ]
  have h2:List.drop (ρ.n+cw (List.take i l)+τ.n) (v.cells.toList++rest)=List.drop (cw (List.take i l)+τ.n) rest:=by
   rw[<-hs.size,<-gi,tu,yE];simp
  simp only[List.set_cons_succ,LZ,KF,h1,h2];exact⟨v,_,by simp,hv,ih⟩
def fJ(l:ard Ty):Ty where
 n:=cw l
 agg:=true
 ok:=fun H v=>∃cs,v= .agg cs/\uD H l cs.toList
 mono:=fun h ⟨cs,e,k⟩=>⟨cs,e,ta h k⟩
 shape:=fun⟨cs,e,k⟩=>by
  subst e;exact⟨by simpa[Value.cells] using nB k,by simpa[Value.cells] using vT k,rfl⟩
def BF(H:HV):ard Ty->ard apU->Prop
 |[],vs=>vs=[]
 |τ::l,vs=>∃v rest,vs=v::rest/\τ.ok H v/\BF H l rest
def DC{H H':HV}(h:HV.le H H'):∀{l:ard Ty} {vs:ard apU},BF H l vs->BF H' l vs
 |[],_,e=>e
 |_::_,_,⟨v,rest,e,hv,hr⟩=>⟨v,rest,e,Ty.mono _ h hv,DC h hr⟩
def abq{H:HV}:∀{l:ard Ty} {vs:ard apU} {i:Nat} {τ:Ty},BF H l vs->l[i]? =some τ->∃v,vs[i]? =some v/\τ.ok H v
 |[],_,i,_,_,h=>by simp at h
 |_::_,_,0,_,⟨v,rest,e,hv,_⟩,h=>by simp at h;subst h;subst e;exact⟨v,rfl,hv⟩
 |_::_,_,i+1,_,⟨v,rest,e,_,hr⟩,h=>by simp at h;subst e;simpa using abq hr h
def zf{H:HV}:∀{l:ard Ty} {vs:ard apU},BF H l vs->vs.length=l.length
 |[],_,e=>by subst e;rfl
 |_::_,_,⟨v,rest,e,_,hr⟩=>by subst e;simp[zf hr]
def nm(τ:Ty):Ty where
 n:=1
 agg:=false
 ok:=fun H v=>∃b off cs E fr,v= .pointer (some ⟨b,off,none⟩)/\H b=some (.cells cs E fr)/\off+τ.n<=cs.size/\
  τ.ok H (JF τ.agg ((cs.toList.drop off).take τ.n).toArray)
 mono:=fun h ⟨b,off,cs,E,fr,e,hb,hl,k⟩=>⟨b,off,cs,E,fr,e,h _ _ hb,hl,τ.mono h k⟩
 shape:=fun⟨_,_,_,_,_,e,_⟩=>by subst e;exact Shape.one rfl
def I8(l:ard Ty):Ty where
 n:=1
 agg:=false
 ok:=fun H v=>∃ad cap,v= .slice ad l.length cap/\l.length<=cap/\
  (l≠[]->∃b off cs E fr,ad=some ⟨b,off,none⟩/\H b=some (.cells cs E fr)/\off+cw l<=cs.size/\uD H l ((cs.toList.drop off).take<|cw l))
 mono:=fun h ⟨ad,cap,e,hc,k⟩=>⟨ad,cap,e,hc,fun hl=>by
  obtain⟨b,off,cs,E,fr,e1,hb,hs,ho⟩:=k hl;exact⟨b,off,cs,E,fr,e1,h _ _ hb,hs,ta h ho⟩⟩
 shape:=fun⟨_,_,e,_,_⟩=>by subst e;exact Shape.one rfl
def TEx{α:Type}(n:Nat)(agg:Bool)(p:α->Prop)(τ:α->Ty)(hn:∀a,(τ a).n=n)(ha:∀a,(τ a).agg=agg):Ty where
 n:=n
 agg:=agg
 ok:=fun H v=>∃a,p a/\(τ a).ok H v
 mono:=fun h ⟨a,pa,k⟩=>⟨a,pa,(τ a).mono h k⟩
 shape:=fun⟨a,_,k⟩=>by have:=(τ a).shape k;rw[hn,ha] at this;exact this
def okM(H:HV):Nat->ard (Ty×Ty)->ard MapEntry->Prop
 |_,[],[]=>True
 |i,(k,e)::l,x::xs=>k.ok H x.key/\e.ok H x.val/\x.born=i/\okM H (i+1) l xs
 |_,_,_=>False
def NA{H H':HV}(h:HV.le H H'):∀{i:Nat} {l:ard (Ty×Ty)} {es:ard MapEntry},okM H i l es->okM H' i l es
 |_,[],[],_=>trivial
 |_,[],_::_,k=>k.elim
 |_,(_,_)::_,[],k=>k.elim
 |_,(k,e)::_,_::_,⟨h1,h2,h3,h4⟩=>⟨k.mono h h1,e.mono h h2,h3,NA h h4⟩
def adz(L:ard (Ty×Ty)):Ty where
 n:=1
 agg:=false
 ok:=fun H v=>∃r es,v= .map (some r)/\H r=some (.map es es.size)/\okM H 0 L es.toList
 mono:=fun h ⟨r,es,e,hr,k⟩=>⟨r,es,e,h _ _ hr,NA h k⟩
 shape:=fun⟨_,_,e,_,_⟩=>by subst e;exact Shape.one rfl
end
section
variable{P:Program}
variable[D:DR]
variable{w:apT}{H:HV}{B:aq P}{v:apU}{a:Act}{w':apT}{H':HV}{b:Nat}{Eb:aq9}{w0:aq P}{H0:HV}{N d:Nat}{B':aq P}{E:aq9}{l:ard Ty}
structure Far(n:Nat)(own:Nat->Prop)(w:apT)(H:HV)(w':apT)(H':HV):Prop where
 size:w.heap.size<=w'.heap.size
 os:w'.os=w.os
 tape:w'.tape=w.tape
 output:w'.output=w.output
 drawn:GN w w'
 le:HV.le H H'
 kF:∀b,b<w.heap.size->(b<n\/own b)->w'.heap[b]? =w.heap[b]?
 view:∀b,b<w.heap.size->(b<n\/own b)->H' b=H b
 sub:∀r o,H' r=some o->w'.heap[r]? =some o
def Far.imp{n m:Nat}{p q:Nat->Prop}{w w':apT}{H H':HV}(h:Far n p w H w' H')(hm:m<=n)(hq:∀b,q b->p b):Far m q w H w' H':=
 ⟨h.size,h.os,h.tape,h.output,h.drawn,h.le,fun b hb k=>h.kF b hb<|k.imp (fun x=>nD x hm)<|hq b,fun b hb k=>h.view b hb<|k.imp (fun x=>nD x hm)<|hq b,h.sub⟩
def Ns:Obj->Prop
 | .deferred _=>False
 |_=>True
structure Inv where
 n:Nat
 M:Nat->Prop
 p:apT->HV->Prop
 lt:∀{w:apT} {H:HV} {b:Nat},p w H->M b->b<w.heap.size/\H b=none/\∃o,w.heap[b]? =some o/\Ns o
 step:∀{w w':apT} {H H':HV},p w H->Far n M w H w' H'->p w' H'
inductive lU where
 |val(τ:Ty)
 |buf(l:ard Ty)
 |any
inductive lA where
 |val(τ:Ty)
 |any(n:Nat)(agg:Bool)
 |sm(u:Nat)
 |buf(E:aq9)(sz:Nat)(l:ard Ty)
 |map(K E:aq9)(Eb:aq9)(sz:Nat)(lS:ard (Ty×lU))
inductive bL where
 |val(τ:Ty)
 |I6(l:ard Ty)
 |own(T:aq9)(τ:Ty)
 |ptr(t off:Nat)
 |opt(c:Bool)(s:bL)
 |same(t:Nat)
 |CQ(t j sz:Nat)
 |bpf(t off:Nat)
 |gone
 |buf(E:aq9)(sz:Nat)(l:ard Ty)
 |qH(T:aq9)(agg:Bool)(ps:ard lA)
 |nK(K E:aq9)(Eb:aq9)(sz:Nat)(lS:ard (Ty×lU))
 |DF(Eb:aq9)(sz:Nat)(l:ard Ty)(i:Nat)
 |inv(I:Inv)
 |OK(t:Nat)(v:apU)
 |lz(l:Nat)(rc:Loop)
 |sw(L:ard (Ty×Ty))(seen:ard Nat)
 |vec(k:atg FuncId)(us:ard Nat)
 |MY(t:Nat)(i:Int)
 |GO(T E:aq9)(l:ard Ty)
 |od(E:aq9)(pre post:ard apU)(l:ard Ty)
 |win(t j n sz:Nat)
 |Jb(t i sz:Nat)
def aV(a:Act)(t:Nat):apU:=a.tmps.getD t undef
def aaI(a:Act)(k:atg FuncId)(us:ard Nat):apU:=match k with
 |none=> .agg (us.map<|aV a).toArray
 |some f=> .func (.func f) #[] (us.map<|aV a).toArray
def vN(B:aq P)(w:apT)(H:HV)(E:aq9)(sz:Nat)(l:ard Ty)(v:apU):Prop:=
 ∃xs,w.ownsRow 0 E sz v l.length xs/\uD H l xs/\∀b,v.ownBlock=some b->H b=none/\B.mg b
def lU.holds(B:aq P)(w:apT)(H:HV)(Eb:aq9)(sz:Nat)(v:apU):lU->Prop
 | .val τ=>τ.ok H v
 | .buf l=>vN B w H Eb sz l v
 | .any=>True
def lU.owns(v:apU)(b:Nat):lU->Prop
 | .buf _=>v.ownBlock=some b
 |_=>False
def OL(B:aq P)(w:apT)(H:HV)(Eb:aq9)(sz:Nat):Nat->ard (Ty×lU)->ard MapEntry->Prop
 |_,[],[]=>True
 |i,(k,e)::l,x::xs=>k.ok H x.key/\e.holds B w H Eb sz x.val/\x.born=i/\OL B w H Eb sz (i+1) l xs
 |_,_,_=>False
def nw(b:Nat):ard (Ty×lU)->ard MapEntry->Prop
 |(_,e)::l,x::xs=>e.owns x.val b\/nw b l xs
 |_,_=>False
def K2:ard (Ty×lU)->ard MapEntry->Prop
 |(_,e)::l,x::xs=>(∀b,e.owns x.val b-> ¬nw b l xs)/\K2 l xs
 |_,_=>True
def H4(B:aq P)(w:apT)(H:HV)(Eb:aq9)(sz:Nat)(lS:ard (Ty×lU))(v:apU):Prop:=
 ∃r es,v= .map (some r)/\w.heap[r]? =some (.map es es.size)/\H r=none/\B.mg r/\OL B w H Eb sz 0 lS es.toList/\K2 lS es.toList
def vk(w:apT)(lS:ard (Ty×lU))(v:apU)(b:Nat):Prop:=
 v= .map (some b)\/∃r es,v= .map (some r)/\w.heap[r]? =some (.map es es.size)/\nw b lS es.toList
def lA.n:lA->Nat
 | .val τ=>τ.n
 | .any n _=>n
 |_=>1
def lA.agg:lA->Bool
 | .val τ=>τ.agg
 | .any _ a=>a
 |_=>false
def lA.holds(B:aq P)(a:Act)(w:apT)(H:HV)(v:apU):lA->Prop
 | .val τ=>τ.ok H v
 | .any n g=>Shape n g v
 | .sm u=>v=aV a u/\v.oneCell'=true
 | .buf E sz l=>vN B w H E sz l v
 | .map _ _ Eb sz lS=>H4 B w H Eb sz lS v
def lA.owns(w:apT)(v:apU)(b:Nat):lA->Prop
 | .buf _ _ _=>v.ownBlock=some b
 | .map _ _ _ _ lS=>vk w lS v b
 |_=>False
def P8(B:aq P)(a:Act)(w:apT)(H:HV):ard lA->ard apU->Prop
 |[],cs=>cs=[]
 |p::l,cs=>∃v rest,cs=v.cells.toList++rest/\Shape p.n p.agg v/\p.holds B a w H v/\P8 B a w H l rest
def oy(w:apT)(b:Nat):ard lA->ard apU->Prop
 |[],_=>False
 |p::l,cs=>p.owns w (JF p.agg (cs.take p.n).toArray) b\/oy w b l (cs.drop p.n)
def K1(w:apT):ard lA->ard apU->Prop
 |[],_=>True
 |p::l,cs=>(∀b,p.owns w (JF p.agg (cs.take p.n).toArray) b-> ¬oy w b l (cs.drop p.n))/\K1 w l (cs.drop p.n)
def bL.holds(B:aq P)(a:Act)(w:apT)(H:HV)(v:apU):bL->Prop
 | .val τ=>τ.ok H v
 | .I6 l=>∃vs,v= .tuple vs/\BF H l vs.toList
 | .own T τ=>∃b x,v= .pointer (some ⟨b,0,none⟩)/\w.heap[b]? =some (.cells x.cells T (0,0))/\τ.ok H x/\H b=none/\B.mg b
 | .ptr t off=>∃b,aV a t= .pointer (some ⟨b,0,none⟩)/\v= .pointer (some ⟨b,off,none⟩)
 | .opt c s=>(c=true->s.holds B a w H v)/\(c=false->v=undef)
 | .same t=>v=aV a t
 | .CQ t j sz=>∃b len cap,aV a t= .slice (some ⟨b,0,none⟩) len cap/\v= .pointer (some ⟨b,j*sz,none⟩)
 | .bpf t off=>∃b len cap,aV a t= .slice (some ⟨b,0,none⟩) len cap/\v= .pointer (some ⟨b,off,none⟩)
 | .gone=>True
 | .buf E sz l=>vN B w H E sz l v
 | .qH T _ ps=>∃b cs,v= .pointer (some ⟨b,0,none⟩)/\w.heap[b]? =some (.cells cs T (0,0))/\H b=none/\B.mg b/\P8 B a w H ps cs.toList/\K1 w ps cs.toList/\ ¬oy w b ps cs.toList
 | .nK _ _ Eb sz lS=>H4 B w H Eb sz lS v
 | .DF Eb sz l i=>∃x,v= .tuple #[x,.int .i64 i]/\vN B w H Eb sz l x
 | .inv I=>I.p w H/\I.n=B.lo
 | .OK t x=>aV a t=x
 | .lz l rc=>w.heap[l]? =some (.loop rc)/\H l=none/\B.mg l
 | .vec k us=>v=aaI a k us
 | .MY t i=>∃x,aV a t= .tuple #[x,.int .i64 i]
 | .od E pre post l=>∃g c cur xs,v= .slice (some ⟨g,pre.length,none⟩) l.length c/\w.heap[g]? =some (.cells cur E (0,0))/\cur.toList=pre++(xs++post)/\uD H l xs/\H g=none/\B.mg g
 | .win t j n sz=>∃g len cap c,aV a t= .slice (some ⟨g,0,none⟩) len cap/\v= .slice (some ⟨g,j*sz,none⟩) n c
 | .Jb t i sz=>∃g o n c,aV a t= .slice (some ⟨g,o,none⟩) n c/\v= .pointer (some ⟨g,o+i*sz,none⟩)
 | .GO T E l=>∃b p r,v= .pointer (some ⟨b,0,none⟩)/\w.heap[b]? =some (.cells #[p,r] T (0,0))/\(p= .pointer none\/p= .pointer (some ⟨b,0,none⟩))/\H b=none/\B.mg b/\vN B w H E 1 l r/\r.ownBlock≠some b
 | .sw L seen=>∃r m es sn,v= .pointer (some ⟨r,0,none⟩)/\w.heap[r]? =some (.mapIter (some m) es.size sn es.size)/\H r=none/\B.mg r/\H m=some (.map es es.size)/\okM H 0 L es.toList/\sn.toList=seen
def bL.owns(w:apT)(v:apU)(b:Nat):bL->Prop
 | .own _ _=>∃ad,v= .pointer (some ad)/\ad.block=b
 | .buf _ _ _=>v.ownBlock=some b
 | .opt c s=>c=true/\s.owns w v b
 | .qH T _ ps=>∃c,v= .pointer (some ⟨c,0,none⟩)/\(b=c\/∃cs,w.heap[c]? =some (.cells cs T (0,0))/\oy w b ps cs.toList)
 | .nK _ _ _ _ lS=>vk w lS v b
 | .DF _ _ _ _=>∃x i,v= .tuple #[x,i]/\x.ownBlock=some b
 | .inv I=>I.M b
 | .lz l _=>b=l
 | .sw _ _=>∃ad,v= .pointer (some ad)/\ad.block=b
 | .od _ _ _ _=>v.ownBlock=some b
 | .GO T _ _=>∃c,v= .pointer (some ⟨c,0,none⟩)/\(b=c\/∃p r,w.heap[c]? =some (.cells #[p,r] T (0,0))/\r.ownBlock=some b)
 |_=>False
def Hm:ard lA->ard Nat
 |[]=>[]
 | .sm u::l=>u::Hm l
 |_::l=>Hm l
def bL.bH:bL->ard Nat
 | .ptr t _=>[t]
 | .same t=>[t]
 | .CQ t _ _=>[t]
 | .bpf t _=>[t]
 | .opt _ s=>s.bH
 | .qH _ _ ps=>Hm ps
 | .OK t _=>[t]
 | .vec _ us=>us
 | .MY t _=>[t]
 | .win t _ _ _=>[t]
 | .Jb t _ _=>[t]
 |_=>[]
abbrev Ctx:=ard<|Nat×bL
def Marks(B:aq P)(w:apT)(H:HV):ard Deferred->Prop
 |[]=>True
 |d::ds=>(∃D,d={target:= .collected D,args:= #[]}/\(B.rd=none->B.n<=D)/\w.heap[D]? =some (.deferred<|some [])/\H D=none/\∀e∈ds,e≠d)/\Marks B w H ds
def Marks.kept{B:aq P}{w w':apT}{H H':HV}:∀{ds:ard Deferred},Marks B w H ds->(∀D,({target:= .collected D,args:= #[]}:Deferred)∈ds->w.heap[D]? =some (.deferred<|some [])->H D=none->w'.heap[D]? =some (.deferred<|some [])/\H' D=none)->Marks B w' H' ds
 |[],_,_=>trivial
 |_::_,⟨⟨D,e,h1,h2,h3,h4⟩,r⟩,k=>⟨⟨D,e,h1,(k D (by simp[e]) h2 h3).1,(k D (by simp[e]) h2 h3).2,h4⟩,r.kept fun D hD=>k D<|fC _ hD⟩
structure Sat(w0:aq P)(H0:HV)(N:Nat)(Γ:Ctx)(a:Act)(w:apT)(H:HV):Prop where
 nd:Marks w0 w H (a.defers++w0.ds)
 sz:a.tmps.size=N
 below:Kept w0 w
 I7:w0.QS=false->∀r,r<w0.n-> ¬w0.X r->H r=H0 r
 sub:∀r o,H r=some o->w.heap[r]? =some o
 holds:∀p∈Γ,p.2.holds w0 a w H<|aV a p.1
 sep:∀p∈Γ,∀q∈Γ,p.1≠q.1->∀b,p.2.owns w (aV a p.1) b-> ¬q.2.owns w (aV a q.1) b
 gl:pI P H
def Sat.weaken{Γ az:Ctx}(h:Sat w0 H0 N Γ a w H)(hs:∀p∈az,p∈Γ):Sat w0 H0 N az a w H:=
 {h with holds:=fun p hp=>h.holds p<|hs p hp,sep:=fun p hp q hq=>h.sep p (hs p hp) q (hs q hq)}
def wU(sub:∀r o,H r=some o->w.heap[r]? =some o){r:Nat}{o:Obj}(h:H r=some o):r<w.heap.size:=
 (wM.1<|sub r o h).1
structure Ext(w:apT)(H:HV)(w':apT)(H':HV):Prop where
 below:E0 w.heap.size w w'
 le:HV.le H H'
 I7:∀r,r<w.heap.size->H' r=H r
 sub:∀r o,H' r=some o->w'.heap[r]? =some o
def Ext.refl{w:apT}{H:HV}(sub:∀r o,H r=some o->w.heap[r]? =some o):Ext w H w H:=
 ⟨E0.refl _ _,HV.le.refl _,fun _ _=>rfl,sub⟩
def Ext.UY(h:Ext w H w' H')(n:Nat)(p:Nat->Prop):Far n p w H w' H':=
 ⟨h.below.size,h.below.os,h.below.tape,h.below.output,h.below.drawn,h.le,fun b hb _=>h.below.block b hb,fun b hb _=>h.I7 b hb,h.sub⟩
def Ext.grown(sub:∀r o,H r=some o->w.heap[r]? =some o)(hb:E0 w.heap.size w w'):Ext w H w' (grow H w w'):=by
 refine⟨hb,?_,?_,?_⟩
 ·intro r o h;have:=wU sub h;simp[grow,this,h]
 ·intro r h;simp[grow,h]
 ·intro r o h;by_cases hr:r<w.heap.size
  ·simp[grow,hr] at h;rw[hb.block r hr];exact sub r o h
  ·simpa[grow,hr] using h
def Ext.alloc{w:apT}{H:HV}(sub:∀r o,H r=some o->w.heap[r]? =some o)(o:Obj):Ext w H (w.alloc o) H:=by
 refine⟨E0.alloc _,HV.le.refl _,fun _ _=>rfl,?_⟩;intro r x h;have:=wU sub h;rw[heap_alloc_old w o this];exact sub r x h
def adC(B:aq P)(w:apT)(H:HV)(b:Nat):Prop:=b<w.heap.size/\B.mg b/\H b=none/\∃o,w.heap[b]? =some o/\Ns o
def lt_of_heap{o:Obj}(h:w.heap[b]? =some o):b<w.heap.size:=(wM.1 h).1
def mb{sz:Nat}(h:vN B w H E sz l v)(hb:v.ownBlock=some b):adC B w H b:=by
 obtain⟨xs,hr,ho,hn⟩:=h;refine⟨(hr.lt b hb).2,(hn b hb).2,(hn b hb).1,?_⟩;obtain⟨_,(⟨e,_⟩|⟨g,cap,cur,e,_,hc,_⟩)⟩:=hr
 ·subst e;simp[Value.ownBlock] at hb
 ·subst e;simp[Value.ownBlock] at hb;subst hb;exact⟨_,hc,trivial⟩
def P5{B:aq P}{w:apT}{H:HV}{Eb:aq9}{sz:Nat}{b:Nat}:∀{i:Nat} {l:ard (Ty×lU)} {es:ard MapEntry},OL B w H Eb sz i l es->nw b l es->adC B w H b
 |_,[],_,_,h=>by simp[nw] at h
 |_,(_,_)::_,[],_,h=>by simp[nw] at h
 |i,(k,e)::l,x::xs,⟨_,he,_,hr⟩,h=>by
  rcases h with h|h
  ·cases e with
   |val τ=>exact h.elim
   |any=>exact h.elim
   |buf l=>exact mb he h
  ·exact P5 hr h
def zi{sz:Nat}{lS:ard (Ty×lU)}(h:H4 B w H Eb sz lS v)(hb:vk w lS v b):adC B w H b:=by
 obtain⟨r,es,e,hr,hn,hm,ho,hs⟩:=h;subst e;rcases hb with hb|⟨r',w8,e',Lb,hb⟩
 ·cases hb;exact⟨lt_of_heap hr,hm,hn,_,hr,trivial⟩
 ·cases e';rw[hr] at Lb;cases Lb;exact P5 ho hb
def abe:∀{p:lA},p.holds B a w H v->p.owns w v b->adC B w H b
 | .val _,_,h=>h.elim
 | .any _ _,_,h=>h.elim
 | .sm _,_,h=>h.elim
 | .buf _ _ _,k,h=>mb k h
 | .map _ _ _ _ _,k,h=>zi k h
def nM{p:lA}{rest:ard apU}(h:Shape p.n p.agg v):JF p.agg ((v.cells.toList++rest).take p.n).toArray=v/\(v.cells.toList++rest).drop p.n=rest:=by
 have hs:=h.size;constructor
 ·have:(List.take p.n<|v.cells.toList++rest).toArray=v.cells:=by
   rw[<-hs,<-gi,LO]
  rw[this];exact h.eq.symm
 ·rw[<-hs,<-gi,EC]
def pU{B:aq P}{a:Act}{w:apT}{H:HV}{b:Nat}:∀{ps:ard lA} {cs:ard apU},P8 B a w H ps cs->oy w b ps cs->adC B w H b
 |[],_,_,h=>h.elim
 |p::l,_,⟨v,rest,e,nP,hv,hr⟩,h=>by
  subst e;obtain⟨e1,e2⟩:=nM (rest:=rest) nP;rcases h with h|h
  ·rw[e1] at h;exact abe hv h
  ·rw[e2] at h;exact pU hr h
def bL.lE{B:aq P}{a:Act}{w:apT}{H:HV}{v:apU}{b:Nat}:∀{s:bL},s.holds B a w H v->s.owns w v b->b<w.heap.size/\H b=none/\∃o,w.heap[b]? =some o/\Ns o
 | .val _,_,h=>h.elim
 | .I6 _,_,h=>h.elim
 | .ptr _ _,_,h=>h.elim
 | .same _,_,h=>h.elim
 | .CQ _ _ _,_,h=>h.elim
 | .bpf _ _,_,h=>h.elim
 | .gone,_,h=>h.elim
 | .OK _ _,_,h=>h.elim
 | .vec _ _,_,h=>h.elim
 | .MY _ _,_,h=>h.elim
 | .own T τ,⟨c,x,e,hb,hx,hn,hB⟩,⟨ad,e',h⟩=>by
  subst e;cases e';cases h;exact⟨lt_of_heap hb,hn,_,hb,trivial⟩
 | .buf _ _ _,h,k=>⟨(mb h k).1,(mb h k).2.2⟩
 | .qH T _ ps,⟨c,cs,e,hb,hn,hB,ho,hs,hx⟩,⟨c',e',h⟩=>by
  subst e;cases e';rcases h with h|⟨AA,ji,h⟩
  ·subst h;exact⟨lt_of_heap hb,hn,_,hb,trivial⟩
  ·rw[hb] at ji;cases ji;exact⟨(pU ho h).1,(pU ho h).2.2⟩
 | .nK _ _ _ _ _,h,k=>⟨(zi h k).1,(zi h k).2.2⟩
 | .DF _ _ _ _,⟨x,e,h⟩,⟨x',i',e',k⟩=>by
  rw[e] at e';cases e';exact⟨(mb h k).1,(mb h k).2.2⟩
 | .opt c s,h,⟨hc,k⟩=>bL.lE (s:=s) (h.1 hc) k
 | .inv I,⟨h,_⟩,k=>I.lt h k
 | .lz l _,⟨h,h2,h3⟩,k=>by
  have k:b=l:=k;subst k;exact⟨lt_of_heap h,h2,_,h,trivial⟩
 | .sw _ _,⟨r,m,es,sn,e,h1,h2,_⟩,⟨ad,e',h⟩=>by
  subst e;cases e';cases h;exact⟨lt_of_heap h1,h2,_,h1,trivial⟩
 | .win _ _ _ _,_,h=>h.elim
 | .Jb _ _ _,_,h=>h.elim
 | .od _ _ _ _,⟨g,c,cur,xs,e,hb,_,_,hn,_⟩,h=>by
  subst e;cases h;exact⟨lt_of_heap hb,hn,_,hb,trivial⟩
 | .GO _ _ _,⟨c,p,r,e,hb,_,hn,_,ho,_⟩,⟨c',e',h⟩=>by
  subst e;cases e';rcases h with h|⟨p',r',ji,h⟩
  ·subst h;exact⟨lt_of_heap hb,hn,_,hb,trivial⟩
  ·have e2:=hb.symm.trans ji;simp at e2;obtain⟨rfl,rfl⟩:=e2;exact⟨(mb ho h).1,(mb ho h).2.2⟩
def HB{sz:Nat}(h:vN B w H E sz l v)(hle:HV.le H H')
 (hk:∀b,v.ownBlock=some b->w'.heap[b]? =w.heap[b]? /\H' b=H b):vN B w' H' E sz l v:=by
 obtain⟨xs,⟨hl,hr⟩,ho,hn⟩:=h;refine⟨xs,⟨hl,?_⟩,ta hle ho,fun b hb=>⟨by rw[(hk b hb).2];exact(hn b hb).1,(hn b hb).2⟩⟩;rcases hr with hr|⟨g,cap,cur,e,h1,hc,h2⟩
 ·exact .inl hr
 ·refine .inr ⟨g,cap,cur,e,h1,?_,h2⟩;rw[(hk g (by rw[e];rfl)).1];exact hc
def Rt{B:aq P}{w w':apT}{H H':HV}{Eb:aq9}{sz:Nat}(hle:HV.le H H'):∀{i:Nat} {l:ard (Ty×lU)} {es:ard MapEntry},OL B w H Eb sz i l es->
  (∀b,nw b l es->w'.heap[b]? =w.heap[b]? /\H' b=H b)->OL B w' H' Eb sz i l es
 |_,[],[],_,_=>trivial
 |_,[],_::_,h,_=>h.elim
 |_,(_,_)::_,[],h,_=>h.elim
 |i,(k,e)::l,x::xs,⟨hk,he,hb,hr⟩,hx=>by
  refine⟨k.mono hle hk,?_,hb,Rt hle hr fun b h=>hx b<| .inr h⟩;cases e with
  |val τ=>exact τ.mono hle he
  |any=>trivial
  |buf l=>exact HB he hle fun b h=>hx b<| .inl h
def Xt{sz:Nat}{lS:ard (Ty×lU)}(h:H4 B w H Eb sz lS v)(hle:HV.le H H')
 (hk:∀b,vk w lS v b->w'.heap[b]? =w.heap[b]? /\H' b=H b):H4 B w' H' Eb sz lS v/\∀b,vk w' lS v b↔vk w lS v b:=by
 obtain⟨r,es,e,hr,hn,hm,ho,hs⟩:=h;subst e;have k0:=hk r<| .inl rfl
 have Lb:w'.heap[r]? =some (.map es es.size):=by rw[k0.1];exact hr
 refine⟨⟨r,es,rfl,Lb,by rw[k0.2];exact hn,hm,Rt hle ho fun b h=>hk b<| .inr ⟨r,es,rfl,hr,h⟩,hs⟩,fun b=>?_⟩;constructor
 ·rintro(h|⟨r1,es1,e1,h1,h2⟩)
  ·exact .inl h
  ·cases e1;rw[Lb] at h1;cases h1;exact .inr ⟨r,es,rfl,hr,h2⟩
 ·rintro(h|⟨r1,es1,e1,h1,h2⟩)
  ·exact .inl h
  ·cases e1;rw[hr] at h1;cases h1;exact .inr ⟨r,es,rfl,Lb,h2⟩
def abf(hle:HV.le H H'):∀{p:lA},p.holds B a w H v->(∀b,p.owns w v b->w'.heap[b]? =w.heap[b]? /\H' b=H b)->
  p.holds B a w' H' v/\∀b,p.owns w' v b↔p.owns w v b
 | .val τ,h,_=>⟨τ.mono hle h,fun _=>Iff.rfl⟩
 | .any _ _,h,_=>⟨h,fun _=>Iff.rfl⟩
 | .sm _,h,_=>⟨h,fun _=>Iff.rfl⟩
 | .buf _ _ _,h,k=>⟨HB h hle k,fun _=>Iff.rfl⟩
 | .map _ _ _ _ _,h,k=>Xt h hle k
def Rq{B:aq P}{a:Act}{w w':apT}{H H':HV}(hle:HV.le H H'):∀{ps:ard lA} {cs:ard apU},P8 B a w H ps cs->(∀b,oy w b ps cs->w'.heap[b]? =w.heap[b]? /\H' b=H b)->
  P8 B a w' H' ps cs/\(∀b,oy w' b ps cs↔oy w b ps cs)/\(K1 w ps cs->K1 w' ps cs)
 |[],_,h,_=>⟨h,fun _=>Iff.rfl,fun h=>h⟩
 |p::l,_,⟨v,rest,e,nP,hv,hr⟩,k=>by
  subst e;obtain⟨e1,e2⟩:=nM (rest:=rest) nP;simp only[oy,K1,e1,e2] at k⊢;obtain⟨h1,h2⟩:=abf hle hv fun b h=>k b<| .inl h
  obtain⟨h3,h4,h5⟩:=Rq hle hr fun b h=>k b<| .inr h
  refine⟨⟨v,rest,rfl,nP,h1,h3⟩,fun b=>or_congr (h2 b)<|h4 b,fun⟨a1,a2⟩=>⟨fun b hb=>?_,h5 a2⟩⟩;rw[h4];exact a1 b<|(h2 b).1 hb
def bL.iU:bL->Bool
 | .inv _=>true
 | .opt _ s=>s.iU
 |_=>false
def bL.uT{B:aq P}{a:Act}{w w':apT}{H H':HV}{v:apU}{n:Nat}:∀{s:bL},s.holds B a w H v->(s.iU=true->n=B.lo)->Far n (fun b=>s.owns w v b) w H w' H'->s.holds B a w' H' v/\∀b,s.owns w' v b↔s.owns w v b
 | .val τ,h,_,F=>⟨τ.mono F.le h,fun _=>Iff.rfl⟩
 | .I6 _,⟨vs,e,k⟩,_,F=>⟨⟨vs,e,DC F.le k⟩,fun _=>Iff.rfl⟩
 | .own T τ,⟨b,x,e,hb,hx,hn,hB⟩,_,F=>by
  subst e;have hlt:=lt_of_heap hb;have ho:(bL.own T τ).owns w (.pointer<|some ⟨b,0,none⟩) b:=⟨_,rfl,rfl⟩;exact⟨⟨b,x,rfl,by rw[F.kF b hlt<| .inr ho];exact hb,τ.mono F.le hx,by rw[F.view b hlt<| .inr ho];exact hn,hB⟩,fun _=>Iff.rfl⟩
 | .ptr _ _,h,_,_=>⟨h,fun _=>Iff.rfl⟩
 | .opt c s,h,hi,F=>by
  cases c with
  |false=>exact⟨⟨(fun e=>by cases e),h.2⟩,fun b=>by simp[bL.owns]⟩
  |true=>
   obtain⟨h1,h2⟩:=uT (s:=s) (h.1 rfl) hi<|F.imp (bC _) fun b hb=>⟨rfl,hb⟩
   exact⟨⟨fun _=>h1,h.2⟩,fun b=>by simp only[bL.owns,h2]⟩
 | .same _,h,_,_=>⟨h,fun _=>Iff.rfl⟩
 | .CQ _ _ _,h,_,_=>⟨h,fun _=>Iff.rfl⟩
 | .bpf _ _,h,_,_=>⟨h,fun _=>Iff.rfl⟩
 | .gone,h,_,_=>⟨h,fun _=>Iff.rfl⟩
 | .OK _ _,h,_,_=>⟨h,fun _=>Iff.rfl⟩
 | .vec _ _,h,_,_=>⟨h,fun _=>Iff.rfl⟩
 | .MY _ _,h,_,_=>⟨h,fun _=>Iff.rfl⟩
 | .buf _ _ _,h,_,F=>⟨HB h F.le fun b hb=>⟨F.kF b (mb h hb).1<| .inr hb,F.view b (mb h hb).1<| .inr hb⟩,fun _=>Iff.rfl⟩
 | .qH T g ps,⟨c,cs,e,hb,hn,hB,ho,hs,hx⟩,_,F=>by
  subst e;have hlt:=lt_of_heap hb;have oc:(bL.qH T g ps).owns w (.pointer<|some ⟨c,0,none⟩) c:=⟨c,rfl,.inl rfl⟩;have op:∀b,oy w b ps cs.toList->(bL.qH T g ps).owns w (.pointer<|some ⟨c,0,none⟩) b:=fun b h=>⟨c,rfl,.inr ⟨cs,hb,h⟩⟩
  have ji:w'.heap[c]? =some (.cells cs T (0,0)):=by rw[F.kF c hlt<| .inr oc];exact hb
  obtain⟨h1,h2,h3⟩:=Rq F.le ho fun b h=>⟨F.kF b (pU ho h).1<| .inr<|op b h,F.view b (pU ho h).1<| .inr<|op b h⟩
  refine⟨⟨c,cs,rfl,ji,by rw[F.view c hlt<| .inr oc];exact hn,hB,h1,h3 hs,by rw[h2];exact hx⟩,fun b=>?_⟩;constructor
  ·rintro⟨c',e',h⟩;cases e';rcases h with h|⟨AA,zG,h⟩
   ·exact⟨c,rfl,.inl h⟩
   ·rw[ji] at zG;cases zG;exact⟨c,rfl,.inr ⟨cs,hb,(h2 b).1 h⟩⟩
  ·rintro⟨c',e',h⟩;cases e';rcases h with h|⟨AA,zG,h⟩
   ·exact⟨c,rfl,.inl h⟩
   ·rw[hb] at zG;cases zG;exact⟨c,rfl,.inr ⟨cs,ji,(h2 b).2 h⟩⟩
 | .nK _ _ _ _ _,h,_,F=>Xt h F.le fun b hb=>⟨F.kF b (zi h hb).1<| .inr hb,F.view b (zi h hb).1<| .inr hb⟩
 | .DF _ _ _ _,⟨x,e,h⟩,_,F=>by
  subst e;exact⟨⟨x,rfl,HB h F.le fun b hb=>⟨F.kF b (mb h hb).1<| .inr ⟨x,_,rfl,hb⟩,F.view b (mb h hb).1<| .inr ⟨x,_,rfl,hb⟩⟩⟩,fun _=>Iff.rfl⟩
 | .lz l rc,⟨h,h2,h3⟩,_,F=>⟨⟨by rw[F.kF l (lt_of_heap h)<| .inr rfl];exact h,by rw[F.view l (lt_of_heap h)<| .inr rfl];exact h2,h3⟩,fun _=>Iff.rfl⟩
 | .sw L seen,⟨r,m,es,sn,e,h1,h2,h3,h4,h5,h6⟩,_,F=>by
  subst e;have ho:(bL.sw L seen).owns w (.pointer<|some ⟨r,0,none⟩) r:=⟨_,rfl,rfl⟩;exact⟨⟨r,m,es,sn,rfl,by rw[F.kF r (lt_of_heap h1)<| .inr ho];exact h1,by rw[F.view r (lt_of_heap h1)<| .inr ho];exact h2,h3,F.le _ _ h4,NA F.le h5,h6⟩,fun _=>Iff.rfl⟩
 | .win _ _ _ _,h,_,_=>⟨h,fun _=>Iff.rfl⟩
 | .Jb _ _ _,h,_,_=>⟨h,fun _=>Iff.rfl⟩
 | .od E pre post l,⟨g,c,cur,xs,e,hb,hc,ho,hn,hB⟩,_,F=>by
  subst e;have oc:(bL.od E pre post l).owns w (.slice (some ⟨g,pre.length,none⟩) l.length c) g:=rfl;exact⟨⟨g,c,cur,xs,rfl,by rw[F.kF g (lt_of_heap hb)<| .inr oc];exact hb,hc,ta F.le ho,by rw[F.view g (lt_of_heap hb)<| .inr oc];exact hn,hB⟩,fun _=>Iff.rfl⟩
 | .GO T E l,⟨c,p,r,e,hb,hp,hn,hB,ho,hx⟩,_,F=>by
  subst e;have hlt:=lt_of_heap hb;have oc:(bL.GO T E l).owns w (.pointer<|some ⟨c,0,none⟩) c:=⟨c,rfl,.inl rfl⟩;have op:∀b,r.ownBlock=some b->(bL.GO T E l).owns w (.pointer<|some ⟨c,0,none⟩) b:=fun b h=>⟨c,rfl,.inr ⟨p,r,hb,h⟩⟩
  have ji:w'.heap[c]? =some (.cells #[p,r] T (0,0)):=by rw[F.kF c hlt<| .inr oc];exact hb
  have h1:=HB ho F.le fun b h=>⟨F.kF b (mb ho h).1<| .inr<|op b h,F.view b (mb ho h).1<| .inr<|op b h⟩
  refine⟨⟨c,p,r,rfl,ji,hp,by rw[F.view c hlt<| .inr oc];exact hn,hB,h1,hx⟩,fun b=>?_⟩;constructor
  ·rintro⟨c',e',h⟩;cases e';rcases h with h|⟨p',r',zG,h⟩
   ·exact⟨c,rfl,.inl h⟩
   ·exact⟨c,rfl,.inr ⟨p',r',by rw[hb,<-ji];exact zG,h⟩⟩
  ·rintro⟨c',e',h⟩;cases e';rcases h with h|⟨p',r',zG,h⟩
   ·exact⟨c,rfl,.inl h⟩
   ·exact⟨c,rfl,.inr ⟨p',r',by rw[ji,<-hb];exact zG,h⟩⟩
 | .inv I,⟨h,e⟩,hi,F=>by
  have:n=I.n:=by rw[hi rfl,e]
  exact⟨⟨I.step h<|this▸F,e⟩,fun _=>Iff.rfl⟩
def bL.A8{s:bL}(h:s.holds B a w H v)(F:Far B.lo (fun b=>s.owns w v b) w H w' H'):s.holds B a w' H' v/\∀b,s.owns w' v b↔s.owns w v b:=
 bL.uT h (fun _=>rfl) F
def bL.ZE(he:Ext w H w' H'){s:bL}(h:s.holds B a w H v):s.holds B a w' H' v:=(bL.A8 h<|he.UY _ _).1
def bL.HK(he:Ext w H w' H'){s:bL}(h:s.holds B a w H v)(b:Nat):s.owns w' v b↔s.owns w v b:=(bL.A8 h<|he.UY _ _).2 b
def ll{t:Nat}(h:d≠t):aV (a.put (some d) v) t=aV a t:=by
 simp[aV,Act.put,Array.getElem?_setIfInBounds_ne h]
def sD(h:d<a.tmps.size):aV (a.put (some d) v) d=v:=by
 simp[aV,Act.put,h]
def BG{B:aq P}{a a':Act}{w:apT}{H:HV}:∀{ps:ard lA} {cs:ard apU},(∀t∈Hm ps,aV a' t=aV a t)->P8 B a w H ps cs->P8 B a' w H ps cs
 |[],_,_,h=>h
 |p::l,_,e,⟨v,rest,e1,nP,hv,hr⟩=>by
  cases p with
  |sm u=>exact⟨v,rest,e1,nP,⟨by rw[e u (by simp[Hm])];exact hv.1,hv.2⟩,BG (fun t ht=>e t (by simp[Hm,ht])) hr⟩
  |val _=>exact⟨v,rest,e1,nP,hv,BG e hr⟩
  |any _ _=>exact⟨v,rest,e1,nP,hv,BG e hr⟩
  |buf _ _ _=>exact⟨v,rest,e1,nP,hv,BG e hr⟩
  |map _ _ _ _ _=>exact⟨v,rest,e1,nP,hv,BG e hr⟩
def bL.nX{B:aq P}{a a':Act}{w:apT}{H:HV}{v:apU}:∀{s:bL},(∀t∈s.bH,aV a' t=aV a t)->s.holds B a w H v->s.holds B a' w H v
 | .val _,_,h=>h
 | .I6 _,_,h=>h
 | .own _ _,_,h=>h
 | .ptr t off,e,⟨b,h1,h2⟩=>⟨b,by rw[e t (by simp[bL.bH])];exact h1,h2⟩
 | .opt c s,e,h=>⟨fun hc=>nX (s:=s) e<|h.1 hc,h.2⟩
 | .same t,e,h=>by show v=_;rw[e t (by simp[bL.bH])];exact h
 | .CQ t _ _,e,⟨b,len,cap,h1,h2⟩=>⟨b,len,cap,by rw[e t (by simp[bL.bH])];exact h1,h2⟩
 | .bpf t _,e,⟨b,len,cap,h1,h2⟩=>⟨b,len,cap,by rw[e t (by simp[bL.bH])];exact h1,h2⟩
 | .gone,_,h=>h
 | .buf _ _ _,_,h=>h
 | .qH _ _ _,e,⟨c,cs,h1,h2,h3,h4,h5,h6⟩=>⟨c,cs,h1,h2,h3,h4,BG e h5,h6⟩
 | .nK _ _ _ _ _,_,h=>h
 | .DF _ _ _ _,_,h=>h
 | .inv _,_,h=>h
 | .MY t i,e,⟨x,h⟩=>⟨x,by rw[e t (by simp[bL.bH])];exact h⟩
 | .vec k us,e,h=>by
  have:us.map (aV a')=us.map (aV a):=List.map_congr_left e;show v=aaI a' k us;rw[show aaI a' k us=aaI a k us by simp only[aaI,this]];exact h
 | .OK t _,e,h=>by show aV a' t=_;rw[e t (by simp[bL.bH])];exact h
 | .lz _ _,_,h=>h
 | .sw _ _,_,h=>h
 | .GO _ _ _,_,h=>h
 | .od _ _ _ _,_,h=>h
 | .win t _ _ _,e,⟨g,len,cap,c,h1,h2⟩=>⟨g,len,cap,c,by rw[e t (by simp[bL.bH])];exact h1,h2⟩
 | .Jb t _ _,e,⟨g,o,n,c,h1,h2⟩=>⟨g,o,n,c,by rw[e t (by simp[bL.bH])];exact h1,h2⟩
def mK(d:Nat)(Γ:Ctx):Bool:=Γ.all fun p=>p.1 !=d&& !p.2.bH.contains d
def wg{A:Ctx}(h:mK d A=true):∀p∈A,p.1≠d/\d∉p.2.bH:=by
 intro p hp;have:=db.1 h p hp;simpa using this
def put_defers{d:atg Tmp}:(a.put d v).defers=a.defers:=by cases d<;>rfl
def Kj{Γ:Ctx}(h:Sat w0 H0 N Γ a w H){s:bL}(hd:d<N)(hf:mK d Γ=true)(hl:d∉s.bH)
 (hs:s.holds w0 a w H v)(hfr:∀b,s.owns w v b->∀q∈Γ,¬q.2.owns w (aV a q.1) b):Sat w0 H0 N ((d,s)::Γ) (a.put (some d) v) w H:=by
 have hd':d<a.tmps.size:=h.sz▸hd;have qh:∀p∈Γ,d≠p.1/\d∉p.2.bH:=fun p hp=>⟨fun e=>(wg hf p hp).1 e.symm,(wg hf p hp).2⟩
 refine⟨by rw[put_defers];exact h.nd,by simp[Act.put,h.sz],h.below,h.I7,h.sub,?_,?_,h.gl⟩
 ·intro p hp;rcases bM.1 hp with e|hp
  ·subst e;simp only[sD hd'];exact bL.nX (fun t ht=>ll<|fun e=>hl<|e▸ht) hs
  ·obtain⟨h1,h2⟩:=qh p hp;rw[ll h1];exact bL.nX (fun t ht=>ll<|fun e=>h2<|e▸ht)<|h.holds p hp
 ·intro p hp q hq hne b hb ji;rcases bM.1 hp with e|hp<;>rcases bM.1 hq with e'|hq
  ·subst e;subst e';exact hne rfl
  ·subst e;simp only[sD hd'] at hb;rw[ll (qh q hq).1] at ji;exact hfr b hb q hq ji
  ·subst e';simp only[sD hd'] at ji;rw[ll (qh p hp).1] at hb;exact hfr b ji p hp hb
  ·rw[ll (qh p hp).1] at hb;rw[ll (qh q hq).1] at ji;exact h.sep p hp q hq hne b hb ji
def Dp{Γ:Ctx}(h:Sat w0 H0 N Γ a w H)(he:Ext w H w' H'):Sat w0 H0 N Γ a w' H':=by
 refine⟨h.nd.kept fun D _ h1 h2=>⟨by rw[he.below.block D<|lt_of_heap h1];exact h1,by rw[he.I7 D<|lt_of_heap h1];exact h2⟩,h.sz,h.below.step he.below,fun hv r hr hx=>?_,he.sub,?_,?_,h.gl.mono he.le⟩
 ·rw[he.I7 r<|nD hr h.below.size,h.I7 hv r hr hx]
 ·intro p hp;exact bL.ZE he<|h.holds p hp
 ·intro p hp q hq hne b hb ji;exact h.sep p hp q hq hne b ((bL.HK he (h.holds p hp) b).1 hb)<|(bL.HK he (h.holds q hq) b).1 ji
def vh{Γ:Ctx}(h:Sat w0 H0 N Γ a w H)(he:Ext w H w' H')
 {s:bL}(hd:d<N)(hf:mK d Γ=true)(hl:d∉s.bH)(hs:s.holds w0 a w' H' v)(hfr:∀b,s.owns w' v b->w.heap.size<=b):
  Sat w0 H0 N ((d,s)::Γ) (a.put (some d) v) w' H':=
 Kj (Dp h he) hd hf hl hs fun b hb q hq ji=>by
  have h1:=hfr b hb;have h2:=(bL.lE (h.holds q hq)<|(bL.HK he (h.holds q hq) b).1 ji).1;omega
def bL.free:bL->Bool
 | .own _ _=>false
 | .buf _ _ _=>false
 | .opt _ s=>s.free
 | .qH _ _ _=>false
 | .nK _ _ _ _ _=>false
 | .DF _ _ _ _=>false
 | .inv _=>false
 | .lz _ _=>false
 | .sw _ _=>false
 | .GO _ _ _=>false
 | .od _ _ _ _=>false
 |_=>true
def bL.free_spec{w:apT}{v:apU}{b:Nat}:∀{s:bL},s.free=true-> ¬s.owns w v b
 | .val _,_,h=>h
 | .I6 _,_,h=>h
 | .ptr _ _,_,h=>h
 | .same _,_,h=>h
 | .CQ _ _ _,_,h=>h
 | .bpf _ _,_,h=>h
 | .gone,_,h=>h
 | .OK _ _,_,h=>h
 | .vec _ _,_,h=>h
 | .MY _ _,_,h=>h
 | .opt c s,e,h=>bL.free_spec (s:=s) e h.2
 | .own _ _,e,_=>by cases e
 | .buf _ _ _,e,_=>by cases e
 | .qH _ _ _,e,_=>by cases e
 | .nK _ _ _ _ _,e,_=>by cases e
 | .DF _ _ _ _,e,_=>by cases e
 | .inv _,e,_=>by cases e
 | .lz _ _,e,_=>by cases e
 | .sw _ _,e,_=>by cases e
 | .GO _ _ _,e,_=>by cases e
 | .od _ _ _ _,e,_=>by cases e
 | .win _ _ _ _,_,h=>h
 | .Jb _ _ _,_,h=>h
def AS{Γ az:Ctx}{ds:ard Deferred}(hs:Sat w0 H0 N Γ a w H)(hk:Kept w0 w')(XT:GN w w')
 (hold:w0.QS=false->∀r,r<w0.n-> ¬w0.X r->H' r=H r)(hsz:w.heap.size<=w'.heap.size)(hle:HV.le H H')(bO:∀r o,H' r=some o->w'.heap[r]? =some o)
 (FU:(∃p∈az,p.2.iU=true)->∀b,b<w.heap.size->b<w0.lo->w'.heap[b]? =w.heap[b]? /\H' b=H b)
 (hp:∀p∈az,p∈Γ/\∀b,p.2.owns w (aV a p.1) b->w'.heap[b]? =w.heap[b]? /\H' b=H b)(hm:Marks w0 w' H' (ds++w0.ds)):Sat w0 H0 N az {a with defers:=ds} w' H':=by
 have UY:∀p∈az,Far (if p.2.iU then w0.lo else 0) (fun b=>p.2.owns w (aV a p.1) b) w H w' H':=fun p h=>by
  have key:∀b,b<w.heap.size->(b<(if p.2.iU then w0.lo else 0)\/p.2.owns w (aV a p.1) b)->w'.heap[b]? =w.heap[b]? /\H' b=H b:=fun b hb h1=>by
   rcases h1 with h1|h1
   ·cases hi:p.2.iU with
    |true=>rw[hi,if_pos rfl] at h1;exact FU ⟨p,h,hi⟩ b hb h1
    |false=>rw[hi] at h1;simp at h1
   ·exact(hp p h).2 b h1
  exact⟨hsz,hk.os.trans hs.below.os.symm,hk.tape.trans hs.below.tape.symm,hk.output.trans hs.below.output.symm,XT,hle,fun b hb h1=>(key b hb h1).1,fun b hb h1=>(key b hb h1).2,bO⟩
 have hh:∀p∈az,p.2.holds w0 a w' H' (aV a p.1)/\∀b,p.2.owns w' (aV a p.1) b↔p.2.owns w (aV a p.1) b:=fun p h=>bL.uT (hs.holds p (hp p h).1) (fun hi=>by rw[hi];rfl)<|UY p h
 refine⟨hm,hs.sz,hk,fun hv r hr hx=>(hold hv r hr hx).trans<|hs.I7 hv r hr hx,bO,?_,?_,hs.gl.mono hle⟩
 ·exact fun p h=>bL.nX (a:=a) (fun _ _=>rfl) (hh p h).1
 ·exact fun p h q h' hne b hb ji=>hs.sep p (hp p h).1 q (hp q h').1 hne b (((hh p h).2 b).1 hb)<|((hh q h').2 b).1 ji
def Dw{sz:Nat}(h:vN B w H E sz l v)(hm:∀b,v.ownBlock=some b->B'.mg b):vN B' w H E sz l v:=by
 obtain⟨xs,h1,h2,h3⟩:=h;exact⟨xs,h1,h2,fun b hb=>⟨(h3 b hb).1,hm b hb⟩⟩
def TC{B B':aq P}{w:apT}{H:HV}{Eb:aq9}{sz:Nat}:∀{i:Nat} {l:ard (Ty×lU)} {es:ard MapEntry},OL B w H Eb sz i l es->(∀b,nw b l es->B'.mg b)->OL B' w H Eb sz i l es
 |_,[],[],_,_=>trivial
 |_,[],_::_,h,_=>h.elim
 |_,(_,_)::_,[],h,_=>h.elim
 |i,(k,e)::l,x::xs,⟨hk,he,hb,hr⟩,hx=>by
  refine⟨hk,?_,hb,TC hr fun b h=>hx b<| .inr h⟩;cases e with
  |val τ=>exact he
  |any=>trivial
  |buf l=>exact Dw he fun b h=>hx b<| .inl h
def TM{sz:Nat}{lS:ard (Ty×lU)}(h:H4 B w H Eb sz lS v)(hm:∀b,vk w lS v b->B'.mg b):H4 B' w H Eb sz lS v:=by
 obtain⟨r,es,e,hr,hn,_,ho,hs⟩:=h;subst e;exact⟨r,es,rfl,hr,hn,hm r<| .inl rfl,TC ho fun b h=>hm b<| .inr ⟨r,es,rfl,hr,h⟩,hs⟩
def TA{B B':aq P}{a:Act}{w:apT}{H:HV}:∀{ps:ard lA} {cs:ard apU},P8 B a w H ps cs->(∀b,oy w b ps cs->B'.mg b)->P8 B' a w H ps cs
 |[],_,h,_=>h
 |p::l,_,⟨v,rest,e,nP,hv,hr⟩,k=>by
  subst e;obtain⟨e1,e2⟩:=nM (rest:=rest) nP;simp only[oy,e1,e2] at k;refine⟨v,rest,rfl,nP,?_,TA hr fun b h=>k b<| .inr h⟩;cases p with
  |val _=>exact hv
  |any _ _=>exact hv
  |sm _=>exact hv
  |buf _ _ _=>exact Dw hv fun b h=>k b<| .inl h
  |map _ _ _ _ _=>exact TM hv fun b h=>k b<| .inl h
def bL.pz{B B':aq P}{a:Act}{w:apT}{H:HV}{v:apU}:∀{s:bL},s.iU=false->s.holds B a w H v->(∀b,s.owns w v b->B'.mg b)->s.holds B' a w H v
 | .val _,_,h,_=>h
 | .I6 _,_,h,_=>h
 | .own _ _,_,⟨b,x,e,h1,h2,h3,_⟩,k=>⟨b,x,e,h1,h2,h3,k b ⟨_,e,rfl⟩⟩
 | .ptr _ _,_,h,_=>h
 | .opt c s,hi,h,k=>⟨fun hc=>bL.pz (s:=s) hi (h.1 hc) fun b hb=>k b ⟨hc,hb⟩,h.2⟩
 | .same _,_,h,_=>h
 | .CQ _ _ _,_,h,_=>h
 | .bpf _ _,_,h,_=>h
 | .gone,_,h,_=>h
 | .buf _ _ _,_,h,k=>Dw h k
 | .qH _ _ _,_,⟨c,cs,e,hb,hn,_,ho,hs,hx⟩,k=>⟨c,cs,e,hb,hn,k c ⟨c,e,.inl rfl⟩,TA ho fun b h=>k b ⟨c,e,.inr ⟨cs,hb,h⟩⟩,hs,hx⟩
 | .nK _ _ _ _ _,_,h,k=>TM h k
 | .DF _ _ _ _,_,⟨x,e,h⟩,k=>⟨x,e,Dw h fun b hb=>k b ⟨x,_,e,hb⟩⟩
 | .inv _,hi,_,_=>by cases hi
 | .OK _ _,_,h,_=>h
 | .vec _ _,_,h,_=>h
 | .MY _ _,_,h,_=>h
 | .lz l _,_,⟨h1,h2,_⟩,k=>⟨h1,h2,k l rfl⟩
 | .sw _ _,_,⟨r,m,es,sn,e,h1,h2,_,h4⟩,k=>⟨r,m,es,sn,e,h1,h2,k r ⟨_,e,rfl⟩,h4⟩
 | .win _ _ _ _,_,h,_=>h
 | .Jb _ _ _,_,h,_=>h
 | .od _ _ _ _,_,⟨g,c,cur,xs,e,hb,hc,ho,hn,_⟩,k=>⟨g,c,cur,xs,e,hb,hc,ho,hn,k g (by rw[e];rfl)⟩
 | .GO _ _ _,_,⟨c,p,r,e,hb,hp,hn,_,ho,hx⟩,k=>⟨c,p,r,e,hb,hp,hn,k c ⟨c,e,.inl rfl⟩,Dw ho fun b h=>k b ⟨c,e,.inr ⟨p,r,hb,h⟩⟩,hx⟩
def bL.qO{B:aq P}{a:Act}{w:apT}{H:HV}{v:apU}{b:Nat}:∀{s:bL},s.iU=false->s.holds B a w H v->s.owns w v b->B.mg b
 | .val _,_,_,h=>h.elim
 | .I6 _,_,_,h=>h.elim
 | .ptr _ _,_,_,h=>h.elim
 | .same _,_,_,h=>h.elim
 | .CQ _ _ _,_,_,h=>h.elim
 | .bpf _ _,_,_,h=>h.elim
 | .gone,_,_,h=>h.elim
 | .OK _ _,_,_,h=>h.elim
 | .vec _ _,_,_,h=>h.elim
 | .MY _ _,_,_,h=>h.elim
 | .own T τ,_,⟨c,x,e,hb,hx,hn,hB⟩,⟨ad,e',h⟩=>by
  subst e;cases e';cases h;exact hB
 | .buf _ _ _,_,h,k=>(mb h k).2.1
 | .qH T _ ps,_,⟨c,cs,e,hb,hn,hB,ho,hs,hx⟩,⟨c',e',h⟩=>by
  subst e;cases e';rcases h with h|⟨AA,ji,h⟩
  ·subst h;exact hB
  ·rw[hb] at ji;cases ji;exact(pU ho h).2.1
 | .nK _ _ _ _ _,_,h,k=>(zi h k).2.1
 | .DF _ _ _ _,_,⟨x,e,h⟩,⟨x',i',e',k⟩=>by
  rw[e] at e';cases e';exact(mb h k).2.1
 | .opt c s,hi,h,⟨hc,k⟩=>bL.qO (s:=s) hi (h.1 hc) k
 | .inv _,hi,_,_=>by cases hi
 | .lz l _,_,⟨_,_,h3⟩,k=>by
  have k:b=l:=k;subst k;exact h3
 | .sw _ _,_,⟨r,m,es,sn,e,_,_,h3,_⟩,⟨ad,e',h⟩=>by
  subst e;cases e';cases h;exact h3
 | .win _ _ _ _,_,_,h=>h.elim
 | .Jb _ _ _,_,_,h=>h.elim
 | .od _ _ _ _,_,⟨g,c,cur,xs,e,hb,_,_,hn,hB⟩,h=>by
  subst e;cases h;exact hB
 | .GO _ _ _,_,⟨c,p,r,e,hb,_,_,hB,ho,_⟩,⟨c',e',h⟩=>by
  subst e;cases e';rcases h with h|⟨p',r',ji,h⟩
  ·subst h;exact hB
  ·have e2:=hb.symm.trans ji;simp at e2;obtain⟨rfl,rfl⟩:=e2;exact(mb ho h).2.1
end
section
variable[D:DR]
variable{d:Nat}
def look:Ctx->Nat->atg bL
 |[],_=>none
 |(k,s)::Γ,t=>match Nat.beq k t with
  |true=>some s
  |false=>look Γ t
def ay:∀{Γ:Ctx} {t:Nat} {s:bL},look Γ t=some s->(t,s)∈Γ
 |[],_,_,h=>by simp[look] at h
 |(k,s')::Γ,t,s,h=>by
  simp only[look] at h;cases hb:Nat.beq k t
  ·rw[hb] at h;exact fC _<|ay h
  ·rw[hb] at h;have:=fB hb;simp at h;subst this;subst h;simp
def bL.tI(s:bL)(d:Nat):Bool:=s.bH.any fun t=>Nat.beq t d
def B9{s:bL}(h:s.tI d=false):d∉s.bH:=fun hm=>by
 have:=List.any_eq_false.1 h d hm;simp at this
def VE{s:bL}(h:d∉s.bH):s.tI d=false:=by
 refine List.any_eq_false.2 fun t ht=>?_
 simp only[Bool.not_eq_true];cases hb:Nat.beq t d
 ·rfl
 ·exact absurd (fB hb▸ht) h
def del(d:Nat):Ctx->Ctx
 |[]=>[]
 |p::Γ=>bif Nat.beq p.1 d||p.2.tI d then del d Γ else p::del d Γ
def kB{d:Nat}:∀{Γ:Ctx},∀p∈del d Γ,p∈Γ
 |[],p,h=>by simp[del] at h
 |q::Γ,p,h=>by
  simp only[del] at h;cases hb:(Nat.beq q.1 d||q.2.tI d)
  ·rw[hb] at h;rcases bM.1 h with e|h
   ·simp[e]
   ·exact fC _<|kB p h
  ·rw[hb] at h;exact fC _<|kB p h
def pF{d:Nat}:∀{Γ:Ctx},mK d (del d Γ)=true
 |[]=>rfl
 |q::Γ=>by
  simp only[del];cases hb:(Nat.beq q.1 d||q.2.tI d)
  ·simp only[fU];have ih:=pF (d:=d) (Γ:=Γ);simp only[mK,rz,bV] at ih⊢;refine⟨?_,ih⟩;simp at hb;refine⟨by simpa using Nat.ne_of_beq_eq_false hb.1,?_⟩;simpa using B9 hb.2
  ·simpa using pF (d:=d) (Γ:=Γ)
inductive uX(Γ:Ctx):ard Nat->Ctx->Prop where
 |nil:uX Γ [] []
 |cons {t:Nat} {s:bL} {ts:ard Nat} {az:Ctx} (h:look Γ t=some s) (r:uX Γ ts az):uX Γ (t::ts) ((t,s)::az)
def uX.sub{Γ:Ctx}{ts:ard Nat}{az:Ctx}(h:uX Γ ts az):∀p∈az,p∈Γ:=by
 induction h with
 |nil=>simp
 |cons h _ ih=>
  intro p hp;rcases bM.1 hp with e|hp
  ·subst e;exact ay h
  ·exact ih p hp
def uX.keys{Γ:Ctx}{ts:ard Nat}{az:Ctx}(h:uX Γ ts az):∀p∈az,p.1∈ts:=by
 induction h with
 |nil=>simp
 |cons h _ ih=>
  intro p hp;rcases bM.1 hp with e|hp
  ·subst e;simp
  ·exact fC _<|ih p hp
def bI(P:arb)(Γ:Ctx)(o:Oper)(s:bL):Prop:=
 ∀(w0:aq P) (H0:HV) (N:Nat) (a:Act) (w:apT) (H:HV),Sat w0 H0 N Γ a w H->∀(K:Act->apT->Prop) (Q:Exit->Act->apT->Prop),
  (∀v w' H',Ext w H w' H'->s.holds w0 a w' H' v->(∀b,s.owns w' v b->w.heap.size<=b)->K (a.put o.dst v) w')->o.wp P a w K Q
def Step(P:arb)(N:Nat)(ops:ath Oper)(o:Oper)(Γ az:Ctx):Prop:=
 ∀(w0:aq P) (H0:HV) (a:Act) (w:apT) (H:HV),Sat w0 H0 N Γ a w H->∀(K:Act->apT->Prop) (Q:Exit->Act->apT->Prop),
  (∀a' w' H',Sat w0 H0 N az a' w' H'->K a' w')->if Region.wanted o (yielded ops a.tmps) then o.wp P a w K Q else K (a.put o.dst undef) w
end
section
variable[D:DR]
variable{P:Program}{N:Nat}{ops:Array Oper}{Γ az fG xG:Ctx}
variable{d:Nat}{s:bL}{j dj:Nat}{b:Bool}{H0:HV}{a:Act}{H:HV}{e want:Bool}
def Step.pure{o:Oper}(h:bI P Γ o s)(hg:o.guard=none)(hd:o.dst=some d)(hN:d<N)(hf:mK d Γ=true)(hl:s.tI d=false):
  Step P N ops o Γ ((d,s)::Γ):=by
 intro w0 H0 a w H hs K Q k;simp only[Region.wanted,hg,if_true];refine h w0 H0 N a w H hs K Q fun v w' H' he hv hb=>?_
 rw[hd];exact k _ _ _<|vh hs he hN hf (B9 hl) hv hb
def Step.over{o:Oper}(h:bI P Γ o s)(hg:o.guard=none)(hd:o.dst=some d)(hN:d<N)(hl:s.tI d=false):
  Step P N ops o Γ ((d,s)::del d Γ):=by
 intro w0 H0 a w H hs K Q k;simp only[Region.wanted,hg,if_true];refine h w0 H0 N a w H hs K Q fun v w' H' he hv hb=>?_
 rw[hd];exact k _ _ _<|vh (hs.weaken kB) he hN pF (B9 hl) hv hb
def gd(b:Bool):Bool->Bool
 |true=>b
 |false=> !b
def U5{w0:aq P}{w:apT}(hs:Sat w0 H0 N Γ a w H)(hj:(ops[j]?).bind (·.dst)=some dj)(hl:look Γ dj=some (.val<|aY b))(hN:dj<N):
  yielded ops a.tmps j=some b:=by
 have h:=hs.holds _<|ay hl
 have h:aV a dj= .bool b:=h;have hlt:dj<a.tmps.size:=hs.sz▸hN;simp only[yielded,hj,Option.bind_some];simp[aV,hlt] at h;simp[hlt,h]
def YF{o:Oper}{w0:aq P}{w:apT}(hs:Sat w0 H0 N Γ a w H)(hg:o.guard=some (j,want))(hj:(ops[j]?).bind (·.dst)=some dj)(hl:look Γ dj=some (.val<|aY b))(hN:dj<N):
  Region.wanted o (yielded ops a.tmps)=gd b want:=by
 simp only[Region.wanted,hg,U5 hs hj hl hN];cases b<;>cases want<;>rfl
inductive Cp(Γ:Ctx)(e:Bool):Ctx->Prop where
 |nil:Cp Γ e []
 |v {t:Nat} {s:bL} {az:Ctx} (h:look Γ t=some s) (r:Cp Γ e az):Cp Γ e ((t,s)::az)
 |o {t:Nat} {s:bL} {c:Bool} {az:Ctx} (h:look Γ t=some (.opt c s)) (k:e=true->c=true) (r:Cp Γ e az):Cp Γ e ((t,s)::az)
def Cp.mem{Γ az:Ctx}(h:Cp Γ e az)(he:e=true):∀p∈az,p∈Γ\/(p.1,bL.opt true p.2)∈Γ:=by
 induction h with
 |nil=>simp
 |v h _ ih=>
  intro p hp;rcases bM.1 hp with e|hp
  ·subst e;exact .inl<|ay h
  ·exact ih p hp
 |o h k _ ih=>
  intro p hp;rcases bM.1 hp with e|hp
  ·subst e;have:=k he;subst this;exact .inr<|ay h
  ·exact ih p hp
def Cp.sat{Γ az:Ctx}(h:Cp Γ e az)(he:e=true){w0:aq P}{N:Nat}{w:apT}(hs:Sat w0 H0 N Γ a w H):Sat w0 H0 N az a w H:=by
 have key:∀p∈az,∃s,(p.1,s)∈Γ/\(s.holds w0 a w H (aV a p.1)->p.2.holds w0 a w H (aV a p.1))/\∀v b,p.2.owns w v b->s.owns w v b:=by
  intro p hp;rcases h.mem he p hp with h|h
  ·exact⟨p.2,h,id,fun _ _ h=>h⟩
  ·exact⟨_,h,fun k=>k.1 rfl,fun v b hb=>⟨rfl,hb⟩⟩
 refine⟨hs.nd,hs.sz,hs.below,hs.I7,hs.sub,?_,?_,hs.gl⟩
 ·intro p hp;obtain⟨s,h1,h2,_⟩:=key p hp;exact h2<|hs.holds _ h1
 ·intro p hp q hq hne b hb ji;obtain⟨s,h1,_,h3⟩:=key p hp;obtain⟨s',h1',_,h3'⟩:=key q hq;exact hs.sep _ h1 _ h1' hne b (h3 _ _ hb)<|h3' _ _ ji
def opO{c8:Ctx}{o:Oper}(ho:Cp Γ e c8)(h:e=true->bI P c8 o s):e=true->bI P Γ o s:=
 fun he w0 H0 N a w H hs K Q k=>h he w0 H0 N a w H (ho.sat he hs) K Q fun v w' H' hx hv hb=>k v w' H' hx hv hb
structure aaf(ops:ath Oper)(N:Nat)(Γ:Ctx)(o:Oper)(e:Bool):Prop where
 w:∀{P':arb} (w0:aq P') (H0:HV) (a:Act) (w:apT) (H:HV),Sat w0 H0 N Γ a w H->Region.wanted o (yielded ops a.tmps)=e
def aaf.v{o:Oper}(hg:o.guard=some (j,want))(hj:(ops[j]?).bind (·.dst)=some dj)(hl:look Γ dj=some (.val<|aY b))(hN:dj<N):aaf ops N Γ o (gd b want):=
 ⟨fun _ _ _ _ _ hs=>YF hs hg hj hl hN⟩
def aaf.o{o:Oper}{j dj:Nat}{b c want:Bool}(hg:o.guard=some (j,want))(hj:(ops[j]?).bind (·.dst)=some dj)(hl:look Γ dj=some (.opt c<| .val<|aY b))(hN:dj<N):aaf ops N Γ o (c&&gd b want):=
 ⟨fun _ _ a _ _ hs=>by
  have h:=hs.holds _<|ay hl
  have hlt:dj<a.tmps.size:=hs.sz▸hN;cases c
  ·have e:aV a dj=undef:=h.2 rfl;simp[aV,hlt] at e;have:yielded ops a.tmps j=none:=by simp[yielded,hj,hlt,e,undef]
   simp[Region.wanted,hg,this]
  ·have e:aV a dj= .bool b:=h.1 rfl;simp[aV,hlt] at e;have:yielded ops a.tmps j=some b:=by simp[yielded,hj,hlt,e]
   simp only[Region.wanted,hg,this,pq];cases b<;>cases want<;>rfl⟩
def Step.guarded{o:Oper}(hgd:aaf ops N Γ o e)
 (h:e=true->bI P Γ o s)(hd:o.dst=some d)(hN:d<N)(hf:mK d Γ=true)(hl:s.tI d=false):Step P N ops o Γ ((d,.opt e s)::Γ):=by
 intro w0 H0 a w H hs K Q k;rw[hgd.w w0 H0 a w H hs];have UX:d∉(bL.opt e s).bH:=B9 (s:=s) hl;cases hb:e
 ·simp only[B4,if_false];rw[hd];subst hb;exact k _ _ _ (vh hs (Ext.refl hs.sub) hN hf UX ⟨(fun e=>by cases e),fun _=>rfl⟩ (fun c e=>by cases e.1))
 ·simp only[if_true];subst hb;refine h rfl w0 H0 N a w H hs K Q fun v w' H' he hv hfr=>?_
  rw[hd];exact k _ _ _ (vh hs he hN hf UX ⟨(fun _=>hv),(fun e=>by cases e)⟩<|fun c e=>hfr c e.2)
def Cj(o:Oper):ard Edge:=o.after.toList.filter<|Region.binds .any
def Be(ops:ath Oper)(av:ard (ard Nat)):Bool:=
 (List.range ops.size).all fun i=>match ops[i]? with
  |none=>false
  |some o=>((Cj o).all fun e=>decide<|e.on<i)&&
   (av.getD i []).all fun j=>(Cj o).any fun e=>e.on==j||(av.getD e.on []).contains j
def vE(ops:ath Oper)(k:Nat)(av:ard (ard Nat)):Bool:=
 decide (k<=ops.size)&&(List.range ops.size).all fun i=>decide (i<k)||(List.range i).all fun j=>(av.getD i []).contains j
def meets(x:ard (Nat×ard Nat))(l:ard Nat):Bool:=x.any fun p=>l.contains p.1
def Pu(k:Nat)(kl:ard (ard<|Nat×ard Nat))(gP:ard (ard Nat))(gK:ard Bool)(L:ard Nat)(av:ard (ard Nat)):Bool:=
 ((List.range k).all fun j=>(List.range j).all fun i=>
  (!(meets (kl.getD i []) (gP.getD j [])||meets (kl.getD i []) ((kl.getD j []).map (·.1))||meets (kl.getD j []) (gP.getD i [])))||(av.getD j []).contains i)&&
 ((List.range k).all fun j=> !(gK.getD j true)||(!(meets ((kl.getD j []).take 1) L)&&(List.range k).all fun i=>(kl.getD i []).all fun p=>p.2.all fun t=>
  !(meets ((kl.getD j []).take 1) [t])||(i !=j&&(meets (kl.getD j []) [p.1]||(av.getD i []).contains j||(av.getD j []).any fun m=>decide (i<m)&&meets (kl.getD m []) [p.1]))||(i==j&& !(meets ((kl.getD j []).take 1) [p.1]))))
def rB:Ctx->ard Nat
 |[]=>[]
 |p::Γ=>p.2.bH++rB Γ
def DP:∀{Γ:Ctx} {q:Nat×bL} {t:Nat},q∈Γ->t∈q.2.bH->t∈rB Γ
 |p::Γ,q,t,h,e=>by
  rcases bM.1 h with h|h
  ·subst h;simp[rB,e]
  ·have:=DP h e;simp[rB,this]
def bN(d:Nat):Ctx->Ctx
 |[]=>[]
 |p::Γ=>bif Nat.beq p.1 d then bN d Γ else p::bN d Γ
def bG{d:Nat}:∀{Γ:Ctx},∀p∈bN d Γ,p∈Γ/\p.1≠d
 |[],p,h=>by simp[bN] at h
 |q::Γ,p,h=>by
  simp only[bN] at h;cases hb:Nat.beq q.1 d
  ·rw[hb] at h;rcases bM.1 h with e|h
   ·subst e;exact⟨by simp,Nat.ne_of_beq_eq_false hb⟩
   ·exact⟨fC _ (bG p h).1,(bG p h).2⟩
  ·rw[hb] at h;exact⟨fC _ (bG p h).1,(bG p h).2⟩
def lF{d:Nat}:∀{Γ:Ctx} {p:Nat×bL},p∈Γ->p.1≠d->p∈bN d Γ
 |q::Γ,p,h,hn=>by
  simp only[bN];rcases bM.1 h with e|h
  ·subst e;cases hb:Nat.beq p.1 d
   ·simp
   ·exact absurd (fB hb) hn
  ·have:=lF h hn;cases Nat.beq q.1 d
   ·exact fC _ this
   ·exact this
def Px(P:arb)(N:Nat)(ops:ath Oper)(c8:Ctx)(o:Oper)(t:Nat)(s:bL):Prop:=
 ∀sI:Ctx,(∀q∈c8,q∈sI)->Step P N ops o sI ((t,s)::bN t sI)
def afT(ks:ard Nat)(Γ:Ctx):Ctx:=Γ.filter fun q=> !ks.contains q.1
def tc{ks:ard Nat}{Γ:Ctx}{q:Nat×bL}:q∈afT ks Γ↔q∈Γ/\q.1∉ks:=by simp[afT]
def Py(P:arb)(N:Nat)(ops:ath Oper)(c8:Ctx)(o:Oper)(t d:Nat)(s:bL):Prop:=
 ∀sI:Ctx,(∀q∈c8,q∈sI)->Step P N ops o sI ((d,s)::del d (bN t sI))
def WD(P:arb)(N:Nat)(ops:ath Oper)(c8:Ctx)(o:Oper)(t:Nat)(s':bL)(d:Nat)(s:bL):Prop:=
 ∀sI:Ctx,(∀q∈c8,q∈sI)->Step P N ops o sI ((d,s)::(t,s')::del d (bN t sI))
def amr(P:arb)(N:Nat)(ops:ath Oper)(c8:Ctx)(o:Oper)(t:Nat)(s':bL)(d:Nat)(s:bL)(u:Nat)(su:bL):Prop:=
 ∀sI:Ctx,(∀q∈c8,q∈sI)->Step P N ops o sI ((d,s)::(t,s')::(u,su)::del d (bN t sI))
def agV(P:arb)(N:Nat)(ops:ath Oper)(c8:Ctx)(o:Oper)(t:Nat)(s:bL)(u:Nat)(s':bL):Prop:=
 ∀sI:Ctx,(∀q∈c8,q∈sI)->Step P N ops o sI ((t,s)::(u,s')::bN t (bN u sI))
inductive cd(P:arb)(N:Nat)(ops:ath Oper)(Γ:Ctx):ard Ctx->ard Oper->ard (ard Nat)->ard Bool->ard Ctx->Prop where
 |nil {acc:ard Ctx}:cd P N ops Γ acc [] [] [] acc
 |cons {acc S:ard Ctx} {c8:Ctx} {o:Oper} {l:ard Oper} {ts:ard Nat} {gP:ard (ard Nat)} {gK:ard Bool} {d:Nat} {s:bL}
   (hs:uX (acc.flatten++Γ) ts c8) (h:bI P c8 o s) (hg:o.guard=none) (hd:o.dst=some d) (hN:d<N) (r:cd P N ops Γ ([(d,s)]::acc) l gP gK S):
   cd P N ops Γ acc (o::l) (ts::gP) (true::gK) S
 |guarded {acc S:ard Ctx} {c8:Ctx} {o:Oper} {l:ard Oper} {ts:ard Nat} {gP:ard (ard Nat)} {gK:ard Bool} {d:Nat} {s:bL} {e:Bool}
   (hs:uX (acc.flatten++Γ) ts c8) (hgd:aaf ops N c8 o e) (h:e=true->bI P c8 o s) (hd:o.dst=some d) (hN:d<N) (r:cd P N ops Γ ([(d,.opt e s)]::acc) l gP gK S):
   cd P N ops Γ acc (o::l) (ts::gP) (true::gK) S
 |store {acc S:ard Ctx} {c8:Ctx} {o:Oper} {l:ard Oper} {ts:ard Nat} {gP:ard (ard Nat)} {gK:ard Bool} {t:Nat} {s:bL}
   (hs:uX (acc.flatten++Γ) ts c8) (h:Px P N ops c8 o t s) (r:cd P N ops Γ ([(t,s)]::acc) l gP gK S):
   cd P N ops Γ acc (o::l) (ts::gP) (false::gK) S
 |afM {acc S:ard Ctx} {c8:Ctx} {o:Oper} {l:ard Oper} {ts:ard Nat} {gP:ard (ard Nat)} {gK:ard Bool} {t d:Nat} {s:bL} (gs:ard Nat)
   (hs:uX (acc.flatten++Γ) ts c8) (h:Py P N ops c8 o t d s) (r:cd P N ops Γ (((d,s)::(t,.gone)::gs.map fun u=>(u,.gone))::acc) l gP gK S):
   cd P N ops Γ acc (o::l) (ts::gP) (true::gK) S
 |two {acc S:ard Ctx} {c8:Ctx} {o:Oper} {l:ard Oper} {ts:ard Nat} {gP:ard (ard Nat)} {gK:ard Bool} {t d:Nat} {s s':bL}
   (hs:uX (acc.flatten++Γ) ts c8) (h:WD P N ops c8 o t s' d s) (r:cd P N ops Γ ([(d,s),(t,s')]::acc) l gP gK S):
   cd P N ops Γ acc (o::l) (ts::gP) (true::gK) S
 |three {acc S:ard Ctx} {c8:Ctx} {o:Oper} {l:ard Oper} {ts:ard Nat} {gP:ard (ard Nat)} {gK:ard Bool} {t d u:Nat} {s s' su:bL}
   (hs:uX (acc.flatten++Γ) ts c8) (h:amr P N ops c8 o t s' d s u su) (r:cd P N ops Γ ([(d,s),(t,s'),(u,su)]::acc) l gP gK S):
   cd P N ops Γ acc (o::l) (ts::gP) (true::gK) S
 |Vd {acc S:ard Ctx} {c8:Ctx} {o:Oper} {l:ard Oper} {ts:ard Nat} {gP:ard (ard Nat)} {gK:ard Bool} {t u:Nat} {s s':bL}
   (hs:uX (acc.flatten++Γ) ts c8) (h:agV P N ops c8 o t s u s') (r:cd P N ops Γ ([(t,s),(u,s')]::acc) l gP gK S):
   cd P N ops Γ acc (o::l) (ts::gP) (false::gK) S
def TO{A B:Ctx}{t:Nat}(h:look (A++B) t=some s):look A t=some s\/((∀q∈A,q.1≠t)/\look B t=some s):=by
 induction A with
 |nil=>exact .inr ⟨(fun q hq=>by cases hq),h⟩
 |cons p A ih=>
  obtain⟨k,s'⟩:=p;simp only[LS,look] at h⊢;cases hb:Nat.beq k t
  ·rw[hb] at h;rcases ih h with h|⟨h1,h2⟩
   ·exact .inl h
   ·refine .inr ⟨fun q hq=>?_,h2⟩;rcases bM.1 hq with e|hq
    ·subst e;exact Nat.ne_of_beq_eq_false hb
    ·exact h1 q hq
  ·rw[hb] at h;exact .inl h
def At(Γ:Ctx)(S:ard Ctx)(i:Nat)(q:Nat×bL):Prop:=
 (∃j c,j<i/\S[j]? =some c/\q∈c/\∀j' c',j<j'->j'<i->S[j']? =some c'->∀q'∈c',q'.1≠q.1)\/(q∈Γ/\∀j c',j<i->S[j]? =some c'->∀q'∈c',q'.1≠q.1)
def mL{Γ:Ctx}{t:Nat}{s:bL}{S:ard Ctx}:∀{acc:ard Ctx},(∀j,j<acc.length->S[j]? =acc.reverse[j]?)->look (acc.flatten++Γ) t=some s->At Γ S acc.length (t,s)
 |[],_,h=> .inr ⟨ay (by simpa using h),fun j c' hj=>by simp at hj⟩
 |c::acc,hS,h=>by
  have acj:S[acc.length]? =some c:=by rw[hS _ (by simp)];simp
  rw[List.flatten_cons,rQ] at h;rcases TO h with h|⟨h1,h2⟩
  ·exact .inl ⟨acc.length,c,by simp,acj,ay h,fun j' c' h3 h4=>by simp at h4;omega⟩
  ·have ih:=mL (acc:=acc) (fun j hj=>by
    rw[hS j (by simp;omega),List.reverse_cons,wL (by simpa using hj)]) h2
   rcases ih with⟨j,c0,k1,k2,k3,k4⟩|⟨k1,k2⟩
   ·refine .inl ⟨j,c0,by simp;omega,k2,k3,fun j' c' h3 h4 h5=>?_⟩;simp at h4;by_cases e:j'=acc.length
    ·subst e;rw[acj] at h5;cases h5;exact h1
    ·exact k4 j' c' h3 (by omega) h5
   ·refine .inr ⟨k1,fun j' c' h4 h5=>?_⟩;simp at h4;by_cases e:j'=acc.length
    ·subst e;rw[acj] at h5;cases h5;exact h1
    ·exact k2 j' c' (by omega) h5
structure WG(P:arb)(N:Nat)(ops:ath Oper)(Γ:Ctx)(ts:ard Nat)(put:Bool)(S:ard Ctx)(i:Nat)(o:Oper)(c:Ctx):Prop where
 exec:∃c8:Ctx,(∀sI:Ctx,(∀q∈c8,q∈sI)->(put=true->∀q∈sI,q.1∉c.map (·.1)->∀p∈c.take 1,p.1∉q.2.bH)->(put=true->∀q∈c.take 1,∀p∈c.take 1,p.1∉q.2.bH)->∃az:Ctx,Step P N ops o sI az/\∀q,q∈c++afT (c.map (·.1)) sI->q∈az)/\∀q∈c8,q.1∈ts/\At Γ S i q
def uX.looks{Γ:Ctx}{ts:ard Nat}{az:Ctx}(h:uX Γ ts az):∀p∈az,look Γ p.1=some p.2:=by
 induction h with
 |nil=>simp
 |cons h _ ih=>
  intro p hp;rcases bM.1 hp with e|hp
  ·subst e;exact h
  ·exact ih p hp
def Tp{sI:Ctx}(h:∀q∈sI,q.1≠d->d∉q.2.bH):mK d (bN d sI)=true:=by
 simp only[mK,db,bV,oj,ne_eq];exact fun q hq=>⟨(bG q hq).2,by simpa using h q (bG q hq).1 (bG q hq).2⟩
def Sat.Yi{P:arb}{w0:aq P}{w:apT}(hs:Sat w0 H0 N Γ a w H)(t:Nat):Sat w0 H0 N ((t,.gone)::Γ) a w H:=by
 refine⟨hs.nd,hs.sz,hs.below,hs.I7,hs.sub,?_,?_,hs.gl⟩
 ·intro p hp;rcases bM.1 hp with e|hp
  ·subst e;trivial
  ·exact hs.holds p hp
 ·intro p hp q hq hne b hb ji;rcases bM.1 hp with e|hp
  ·subst e;exact hb.elim
  ·rcases bM.1 hq with e|hq
   ·subst e;exact ji.elim
   ·exact hs.sep p hp q hq hne b hb ji
def Step.gone{o:Oper}(h:Step P N ops o Γ az)(t:Nat):Step P N ops o Γ ((t,.gone)::az):=
 fun w0 H0 a w H hs K Q k=>h w0 H0 a w H hs K Q fun a' w' H' oV=>k a' w' H'<|oV.Yi t
def Step.agO{o:Oper}(h:Step P N ops o Γ az):∀gs:ard Nat,Step P N ops o Γ ((gs.map fun u=>(u,bL.gone))++az)
 |[]=>h
 |u::gs=>(Step.agO h gs).gone u
def RA{sI:Ctx}{p q:Nat×bL}(h:q∈[p]++afT ([p].map (·.1)) sI):q∈p::bN p.1 sI:=by
 rcases lN.1 h with h|h
 ·rw[uO.1 h];simp
 ·obtain⟨h1,h2⟩:=tc.1 h;exact fC _ (lF h1 (by simpa using h2))
def p6{d:Nat}:∀{Γ:Ctx} {p:Nat×bL},p∈Γ->p.1≠d->d∉p.2.bH->p∈del d Γ
 |q::Γ,p,h,hn,hl=>by
  simp only[del];have hq:(Nat.beq p.1 d||p.2.tI d)=false:=by
   rw[wI];exact⟨by cases hb:Nat.beq p.1 d;rfl;exact absurd (fB hb) hn,VE hl⟩
  rcases bM.1 h with e|h
  ·subst e;rw[hq];simp
  ·have:=p6 h hn hl;cases(Nat.beq q.1 d||q.2.tI d)
   ·exact fC _ this
   ·exact this
def cd.at_{acc:ard Ctx}{l:ard Oper}{gP:ard (ard Nat)}{gK:ard Bool}{S:ard Ctx}(h:cd P N ops Γ acc l gP gK S):
  (∃S',S=S'++acc/\S'.length=l.length)/\gP.length=l.length/\gK.length=l.length/\∀(i:Nat) (o:Oper) (ts:ard Nat) (put:Bool),l[i]? =some o->gP[i]? =some ts->gK[i]? =some put->
   ∃p,S.reverse[acc.length+i]? =some p/\WG P N ops Γ ts put S.reverse (acc.length+i) o p:=by
 have step:∀{acc:ard Ctx} {c:Ctx} {l:ard Oper} {S:ard Ctx},(∃S',S=S'++c::acc/\S'.length=l.length)->
   (∃S',S=S'++acc/\S'.length=l.length+1)/\S.reverse[acc.length]? =some c/\∀j,j<acc.length->S.reverse[j]? =acc.reverse[j]? :=by
  rintro acc c l S ⟨S',rfl,hl⟩;refine⟨⟨S'++[c],by simp,by simp[hl]⟩,by simp,fun j hj=>?_⟩;simp only[List.reverse_append,List.reverse_cons,rQ];rw[wL (by simpa using hj)]
 induction h with
 |nil=>exact⟨⟨[],by simp⟩,rfl,rfl,fun i o _ _ h=>by simp at h⟩
 | @cons acc S c8 o l ts gP gK d s hs h hg hd hN r ih=>
  obtain⟨h1,h2,h3,h4⟩:=ih;obtain⟨k1,k2,k3⟩:=step h1;refine⟨by simpa using k1,by simp[h2],by simp[h3],?_⟩;intro i o' YM Jw hi hn hp;cases i with
  |zero=>
   simp at hi hn hp;subst hi;subst hn;subst hp;refine⟨[(d,s)],by simpa using k2,⟨c8,?_,fun q hq=>⟨hs.keys q hq,by simpa using mL k3 (hs.looks q hq)⟩⟩⟩;intro sI bO qh NT;refine⟨(d,s)::bN d sI,?_,fun q hq=>RA hq⟩;intro w0 H0 a w H cn K Q kk;simp only[Region.wanted,hg,if_true];refine h w0 H0 N a w H (cn.weaken bO) K Q fun v w' H' he hv hb=>?_
   rw[hd];exact kk _ _ _ (vh (cn.weaken fun q hq=>(bG q hq).1) he hN (Tp fun q hq hn=>qh rfl q hq (by simpa using hn) (d,s) (by simp)) (NT rfl (d,s) (by simp) (d,s) (by simp)) hv hb)
  |succ i=>
   simp at hi hn hp;obtain⟨p,Fc,Ss⟩:=h4 i o' YM Jw hi hn hp;have e:acc.length+(i+1)=([(d,s)]::acc).length+i:=by simp;omega
   rw[e];exact⟨p,Fc,Ss⟩
 | @guarded acc S c8 o l ts gP gK d s e hs hgd h hd hN r ih=>
  obtain⟨h1,h2,h3,h4⟩:=ih;obtain⟨k1,k2,k3⟩:=step h1;refine⟨by simpa using k1,by simp[h2],by simp[h3],?_⟩;intro i o' YM Jw hi hn hp;cases i with
  |zero=>
   simp at hi hn hp;subst hi;subst hn;subst hp;refine⟨[(d,.opt e s)],by simpa using k2,⟨c8,?_,fun q hq=>⟨hs.keys q hq,by simpa using mL k3 (hs.looks q hq)⟩⟩⟩;intro sI bO qh NT;refine⟨(d,.opt e s)::bN d sI,?_,fun q hq=>RA hq⟩;intro w0 H0 a w H cn K Q kk;rw[hgd.w w0 H0 a w H<|cn.weaken bO];have agy:=cn.weaken (az:=bN d sI) fun q hq=>(bG q hq).1
   have hf':mK d (bN d sI)=true:=Tp fun q hq hn=>qh rfl q hq (by simpa using hn) (d,.opt e s) (by simp)
   have oV:d∉(bL.opt e s).bH:=NT rfl (d,.opt e s) (by simp) (d,.opt e s) (by simp);cases hb:e
   ·simp only[B4,if_false];rw[hd];subst hb;exact kk _ _ _ (vh agy (Ext.refl cn.sub) hN hf' oV ⟨(fun e=>by cases e),fun _=>rfl⟩ (fun c e=>by cases e.1))
   ·simp only[if_true];subst hb;refine h rfl w0 H0 N a w H (cn.weaken bO) K Q fun v w' H' he hv hfr=>?_
    rw[hd];exact kk _ _ _ (vh agy he hN hf' oV ⟨(fun _=>hv),(fun e=>by cases e)⟩<|fun c e=>hfr c e.2)
  |succ i=>
   simp at hi hn hp;obtain⟨p,Fc,Ss⟩:=h4 i o' YM Jw hi hn hp;have e:acc.length+(i+1)=([(d,bL.opt e s)]::acc).length+i:=by simp;omega
   rw[e];exact⟨p,Fc,Ss⟩
 | @store acc S c8 o l ts gP gK t s hs h r ih=>
  obtain⟨h1,h2,h3,h4⟩:=ih;obtain⟨k1,k2,k3⟩:=step h1;refine⟨by simpa using k1,by simp[h2],by simp[h3],?_⟩;intro i o' YM Jw hi hn hp;cases i with
  |zero=>
   simp at hi hn hp;subst hi;subst hn;subst hp;exact⟨[(t,s)],by simpa using k2,⟨c8,fun sI bO _ _=>⟨_,h sI bO,fun q hq=>RA hq⟩,fun q hq=>⟨hs.keys q hq,by simpa using mL k3 (hs.looks q hq)⟩⟩⟩
  |succ i=>
   simp at hi hn hp;obtain⟨p,Fc,Ss⟩:=h4 i o' YM Jw hi hn hp;have e:acc.length+(i+1)=([(t,s)]::acc).length+i:=by simp;omega
   rw[e];exact⟨p,Fc,Ss⟩
 | @afM acc S c8 o l ts gP gK t d s gs hs h r ih=>
  obtain⟨h1,h2,h3,h4⟩:=ih;obtain⟨k1,k2,k3⟩:=step h1;refine⟨by simpa using k1,by simp[h2],by simp[h3],?_⟩;intro i o' YM Jw hi hn hp;cases i with
  |zero=>
   simp at hi hn hp;subst hi;subst hn;subst hp;refine⟨((d,s)::(t,.gone)::gs.map fun u=>(u,.gone)),by simpa using k2,⟨c8,fun sI bO qh _=>⟨_,((h sI bO).agO gs).gone t,fun q hq=>?_⟩,fun q hq=>⟨hs.keys q hq,by simpa using mL k3 (hs.looks q hq)⟩⟩⟩;rcases lN.1 hq with hq|hq
   ·rcases bM.1 hq with e|hq
    ·subst e;exact fC _ (Ap _ (by simp))
    ·rcases bM.1 hq with e|hq
     ·subst e;simp
     ·exact fC _<|B7 _ hq
   ·obtain⟨m1,m2⟩:=tc.1 hq;have m3:=m2;simp only[tH,bM,not_or] at m2;refine fC _<|Ap _<|fC _<|p6 (lF m1 m2.2.1) m2.1 ?_
    exact qh rfl q m1 m3 (d,s) (by simp)
  |succ i=>
   simp at hi hn hp;obtain⟨p,Fc,Ss⟩:=h4 i o' YM Jw hi hn hp;have e:acc.length+(i+1)=(((d,s)::(t,bL.gone)::gs.map fun u=>(u,bL.gone))::acc).length+i:=by simp;omega
   rw[e];exact⟨p,Fc,Ss⟩
 | @two acc S c8 o l ts gP gK t d s s' hs h r ih=>
  obtain⟨h1,h2,h3,h4⟩:=ih;obtain⟨k1,k2,k3⟩:=step h1;refine⟨by simpa using k1,by simp[h2],by simp[h3],?_⟩;intro i o' YM Jw hi hn hp;cases i with
  |zero=>
   simp at hi hn hp;subst hi;subst hn;subst hp;refine⟨[(d,s),(t,s')],by simpa using k2,⟨c8,fun sI bO qh _=>⟨_,h sI bO,fun q hq=>?_⟩,fun q hq=>⟨hs.keys q hq,by simpa using mL k3 (hs.looks q hq)⟩⟩⟩;rcases lN.1 hq with hq|hq
   ·simp only[bM,yD,or_false] at hq;rcases hq with e|e<;>subst e<;>simp
   ·obtain⟨m1,m2⟩:=tc.1 hq;have m3:=m2;simp only[tH,LK,bM,yD,or_false,not_or] at m2;exact fC _ (fC _ (p6 (lF m1 m2.2) m2.1 (qh rfl q m1 m3 (d,s) (by simp))))
  |succ i=>
   simp at hi hn hp;obtain⟨p,Fc,Ss⟩:=h4 i o' YM Jw hi hn hp;have e:acc.length+(i+1)=([(d,s),(t,s')]::acc).length+i:=by simp;omega
   rw[e];exact⟨p,Fc,Ss⟩
 | @three acc S c8 o l ts gP gK t d u s s' su hs h r ih=>
  obtain⟨h1,h2,h3,h4⟩:=ih;obtain⟨k1,k2,k3⟩:=step h1;refine⟨by simpa using k1,by simp[h2],by simp[h3],?_⟩;intro i o' YM Jw hi hn hp;cases i with
  |zero=>
   simp at hi hn hp;subst hi;subst hn;subst hp;refine⟨[(d,s),(t,s'),(u,su)],by simpa using k2,⟨c8,fun sI bO qh _=>⟨_,h sI bO,fun q hq=>?_⟩,fun q hq=>⟨hs.keys q hq,by simpa using mL k3 (hs.looks q hq)⟩⟩⟩;rcases lN.1 hq with hq|hq
   ·simp only[bM,yD,or_false] at hq;rcases hq with e|e|e<;>subst e<;>simp
   ·obtain⟨m1,m2⟩:=tc.1 hq;have m3:=m2;simp only[tH,LK,bM,yD,or_false,not_or] at m2;exact fC _ (fC _ (fC _ (p6 (lF m1 m2.2.1) m2.1 (qh rfl q m1 m3 (d,s) (by simp)))))
  |succ i=>
   simp at hi hn hp;obtain⟨p,Fc,Ss⟩:=h4 i o' YM Jw hi hn hp;have e:acc.length+(i+1)=([(d,s),(t,s'),(u,su)]::acc).length+i:=by simp;omega
   rw[e];exact⟨p,Fc,Ss⟩
 | @Vd acc S c8 o l ts gP gK t u s s' hs h r ih=>
  obtain⟨h1,h2,h3,h4⟩:=ih;obtain⟨k1,k2,k3⟩:=step h1;refine⟨by simpa using k1,by simp[h2],by simp[h3],?_⟩;intro i o' YM Jw hi hn hp;cases i with
  |zero=>
   simp at hi hn hp;subst hi;subst hn;subst hp;refine⟨[(t,s),(u,s')],by simpa using k2,⟨c8,fun sI bO _ _=>⟨_,h sI bO,fun q hq=>?_⟩,fun q hq=>⟨hs.keys q hq,by simpa using mL k3 (hs.looks q hq)⟩⟩⟩;rcases lN.1 hq with hq|hq
   ·simp only[bM,yD,or_false] at hq;rcases hq with e|e<;>subst e<;>simp
   ·obtain⟨m1,m2⟩:=tc.1 hq;simp only[tH,LK,bM,yD,or_false,not_or] at m2;exact fC _<|fC _<|lF (lF m1 m2.2) m2.1
  |succ i=>
   simp at hi hn hp;obtain⟨p,Fc,Ss⟩:=h4 i o' YM Jw hi hn hp;have e:acc.length+(i+1)=([(t,s),(u,s')]::acc).length+i:=by simp;omega
   rw[e];exact⟨p,Fc,Ss⟩
end
section
variable[D:DR]
variable{P:arb}{w:apT}{o:Oper}{n:Nat}{l:ard Oper}
def qj{P:arb}(w0:aq P)(N:Nat)(Γ fG:Ctx):Prop:=∀(H0:HV) (a:Act) (w:apT) (H:HV),Sat w0 H0 N Γ a w H->∃H',Sat w0 H0 N fG a w H'
inductive ft(P:arb)(w0:aq P)(N:Nat)(ops:ath Oper):ard Oper->Ctx->Ctx->Prop where
 |done {Γ:Ctx}:ft P w0 N ops [] Γ Γ
 |fin {Γ az:Ctx} {ts:ard Nat} (h:uX Γ ts az):ft P w0 N ops [] Γ az
 |cons {Γ fG xG:Ctx} {o:Oper} {l:ard Oper} (h:Step P N ops o Γ fG) (r:ft P w0 N ops l fG xG):ft P w0 N ops (o::l) Γ xG
 |ghost {Γ fG xG:Ctx} {l:ard Oper} (h:qj w0 N Γ fG) (r:ft P w0 N ops l fG xG):ft P w0 N ops l Γ xG
def hC(rd:atg Nat):Fence:={fn:=fun _=>True,depth:=none,alive:=false,round:=rd}
def adf{rd:atg Nat}{f:FuncId}{args:ath apU}{R:Ending->apT->Prop}(h:Calls P f args w R):CallsIn (hC rd) n P f args w R:=
 (callsIn_wide (n:=n)).2 h
def HM{rd:atg Nat}{a:Act}{K:Act->apT->Prop}{Q:Exit->Act->apT->Prop}(Pl:∀c,o.op≠ .defer c)(h:o.wp P a w K Q):o.wpIn (hC rd) 0 P a w K Q:=by
 refine⟨fun _ _=>trivial,?_⟩;rw[Oper.semAt_eq _ _ _ Pl];unfold Oper.wp at h
 generalize (execOp a.eval o).run P w=r at*
 cases r with
 |ok n w'=>
  cases n<;>simp only[Oper.upon] at h<;>first
   |exact h
   |exact h.elim
   |exact⟨(fun e=>by cases e),adf h⟩
   |exact⟨(fun e=>by cases e),fun c cs _=>let⟨v,w2,r1,s⟩:=h c cs;⟨v,w2,r1,stepsIn_wide.2 s⟩⟩
 |halt x w'=>cases x<;>simp only[Oper.upon] at h⊢ <;>exact h
def CallsIn.agr{F:Fence}{f:FuncId}{args:ath apU}{R R':Ending->apT->Prop}(h:CallsIn F n P f args w R)(hr:∀e w',R e w'->R' e w'):CallsIn F n P f args w R':=
 ⟨h.1,fun cs hc=>let⟨e,w',fr,r,s⟩:=h.2 cs hc;⟨e,w',fr,hr _ _ r,s⟩⟩
def GS{F:Fence}{a:Act}{K K':Act->apT->Prop}{Q:Exit->Act->apT->Prop}(h:∀a w,K a w->K' a w)(hh:o.wpIn F n P a w K Q):o.wpIn F n P a w K' Q:=by
 refine⟨hh.1,?_⟩;have hh:=hh.2
 generalize (o.semAt F.round a.eval).run P w=r at*
 cases r with
 |ok n w'=>
  cases n<;>simp only[Oper.uponIn] at hh⊢ <;>
   first
    |exact h _ _ hh
    |exact⟨hh.1,CallsIn.agr hh.2 (fun e w'' he=>by cases e<;>first|exact h _ _ he|exact he)⟩
    |exact⟨hh.1,RowsIn.mono hh.2<|fun _ _ he=>h _ _ he⟩
    |exact⟨hh.1,RoundIn.mono hh.2 (fun e w'' he=>by cases e<;>first|exact h _ _ he|exact he)⟩
 |halt x w'=>cases x<;>simp only[Oper.uponIn] at hh⊢ <;>exact hh
def pb(l:ard Oper):Bool:=l.all fun o=>match o.op with| .defer _=>false|_=>true
def xZ(h:pb l=true)(ho:o∈l):∀c,o.op≠ .defer c:=fun c e=>by
 have:=db.1 h o ho;simp[e] at this
def Nt(h:pb (o::l)=true):pb l=true:=by simp only[pb,rz,bV] at h;exact h.2
def ft.sound{w0:aq P}{N:Nat}{ops:ath Oper}{Γ az:Ctx}(h:ft P w0 N ops l Γ az):pb l=true->∀(H0:HV) (a:Act) (w:apT) (H:HV),Sat w0 H0 N Γ a w H->∀(Q:Exit->Act->apT->Prop),
  (∀a' w' H',Sat w0 H0 N az a' w' H'->Q .normal a' w')->wpListIn (hC w0.rd) 0 P ops Q l a w:=by
 induction h with
 |done=>exact fun _ _ _ _ H hs _ k=>k _ _ H hs
 |fin h=>exact fun _ _ _ _ H hs _ k=>k _ _ H<|hs.weaken h.sub
 | @cons _ _ _ o l h _ ih=>
  intro gq H0 a w H hs Q k;have wj:=h w0 H0 a w H hs (wpListIn (hC w0.rd) 0 P ops Q l) Q fun a' w' H' oV=>ih (Nt gq) H0 a' w' H' oV Q k
  unfold wpListIn;split
  ·rename_i hw;rw[if_pos hw] at wj;exact HM (xZ gq (by simp)) wj
  ·rename_i hw;rw[if_neg hw] at wj;exact⟨fun _ _=>trivial,wj⟩
 |ghost h _ ih=>
  intro gq H0 a w H hs Q k;obtain⟨H',oV⟩:=h H0 a w H hs;exact ih gq H0 a w H' oV Q k
end
section
variable[D:DR]
variable{P:Program}{ops:Array Oper}{Q:Exit->Act->World->Prop}{F:Fence}
def GR(F:Fence)(P:arb)(ops:ath Oper)(Q:Exit->Act->apT->Prop)(i:Nat)(K:Act->apT->Prop)(a:Act)(w:apT):Prop:=
 match ops[i]? with
 |none=>K a w
 |some o=>if Region.wanted o (yielded ops a.tmps) then o.wpIn F 0 P a w K Q else(∀f,o.about P w a.eval=some f->F.fn f)/\K (a.put o.dst undef) w
def uk(F:Fence)(P:arb)(ops:ath Oper)(Q:Exit->Act->apT->Prop):Nat->ath Bool->Act->apT->Prop
 |0,listed,a,w=>Region.ready .any ops listed=[]/\Q .normal a w
 |fuel+1,listed,a,w=>
  (Region.ready .any ops listed=[]->Q .normal a w)/\
  ∀i∈Region.ready .any ops listed,GR F P ops Q i (uk F P ops Q fuel<|listed.setIfInBounds i true) a w
def SI(i:Nat)(rest:ard Nat)(a:Act)(w:apT):wpOpsIn F 0 P ops Q (i::rest) a w=GR F P ops Q i (wpOpsIn F 0 P ops Q rest) a w:=by
 cases h:ops[i]? <;>simp[wpOpsIn,GR,h]
def U7{i:Nat}{a:Act}{w:apT}{K K':Act->apT->Prop}(h:∀a w,K a w->K' a w)(hh:GR F P ops Q i K a w):GR F P ops Q i K' a w:=by
 unfold GR at*;split
 ·exact h _ _ (by simpa[*] using hh)
 ·rename_i o ho;simp only[ho] at hh;split
  ·rename_i hw;simp only[hw,if_true] at hh;exact GS h hh
  ·rename_i hw;simp only[hw] at hh;exact⟨hh.1,h _ _ hh.2⟩
def QE:∀(fuel t:Nat) (listed:ath Bool) (a:Act) (w:apT),uk F P ops Q fuel listed a w->wpOpsIn F 0 P ops Q (Region.linearise.go .any ops fuel t listed []) a w:=by
 intro fuel
 induction fuel with
 |zero=>intro t listed a w h;simpa[Region.linearise.go,wpOpsIn] using h.2
 |succ fuel ih=>
  intro t listed a w h;obtain⟨h0,h1⟩:=h;simp only[Region.linearise.go];change wpOpsIn F 0 P ops Q (match(Region.ready .any ops listed)[t%(Region.ready .any ops listed).length]? with
   |some i=>Region.linearise.go .any ops fuel (t/(Region.ready .any ops listed).length) (listed.setIfInBounds i true) [i]
   |none=>[].reverse) a w
  cases hi:(Region.ready .any ops listed)[t%(Region.ready .any ops listed).length]? with
  |none=>
   have acd:Region.ready .any ops listed=[]:=by
    cases hr:Region.ready .any ops listed with
    |nil=>rfl
    |cons x xs=>
     rw[hr] at hi;have hlt:t%(x::xs).length<(x::xs).length:=tF _ (by simp);simp at hi;simp at hlt;omega
   simpa[wpOpsIn] using h0 acd
  |some i=>
   simp only[];rw[linearise_go_acc,List.reverse_singleton,List.singleton_append,SI];exact U7 (fun a w=>ih _ _ a w)<|h1 i<|B6 hi
def Cs{id:Nat}{a:Act}{w:apT}(hm:P.follows .mixedOrders=true)
  (h:uk F P ops Q ops.size (Array.replicate ops.size false) a {w with drawn:=w.drawn+1}):(Code.region id ops true).wpIn F 0 P Q a w:=
 wpIn_region_draw fun t=>by
  simp only[Region.schedule,hm,Ey,if_true];exact QE ops.size t _ a _ h
end
section
variable[D:DR]
variable{P:Program}{N:Nat}{ops:Array Oper}{Γ az:Ctx}
variable{listed:ath Bool}{i:Nat}{av:ard (ard Nat)}{Q:Exit->Act->apT->Prop}{k:Nat}{S:ard Ctx}{a:Act}{w:apT}{c:Ctx}
def rV(listed:ath Bool)(i:Nat):Prop:=listed.getD i false=true
def XY(h:i<listed.size):listed.getD i true=listed.getD i false:=by simp[h]
def so(hs:listed.size=ops.size):i∈Region.ready .any ops listed↔∃o,ops[i]? =some o/\ ¬rV listed i/\∀e∈Cj o,rV listed e.on:=by
 simp only[Region.ready,B0,rA];constructor
 ·rintro⟨hi,h⟩;have hi':i<listed.size:=hs▸hi;rw[XY hi'] at h;simp only[bV,gY] at h;obtain⟨h1,h2⟩:=h;refine⟨ops[i],by simp[hi],by simp[rV];simpa using h1,?_⟩;simp only[hi,getElem?_pos,xB,EE] at h2;intro e he;have:=Array.all_eq_true'.1 h2 e (by simpa using(B0.1 he).1);have hb:=(B0.1 he).2;simp[hb] at this;simpa[rV] using this
 ·rintro⟨o,ho,hl,he⟩;have hi:i<ops.size:=(wM.1 ho).1;have hi':i<listed.size:=hs▸hi;refine⟨hi,?_⟩;rw[XY hi'];simp only[bV,gY,ho,xB,EE];refine⟨by simpa[rV] using hl,?_⟩;rw[Array.all_eq_true'];intro e hm;by_cases hb:Region.binds .any e=true
  ·have:=he e (B0.2 ⟨by simpa using hm,hb⟩);simp[rV] at this;simp[this]
  ·simp at hb;simp[hb]
def kA{j:Nat}(hi:i<listed.size):rV (listed.setIfInBounds i true) j↔(j=i\/rV listed j):=by
 simp only[rV,DO];by_cases e:i=j
 ·subst e;simp[hi]
 ·rw[Array.getElem?_setIfInBounds_ne e];constructor
  ·exact fun h=> .inr h
  ·rintro(h|h)
   ·exact absurd h.symm e
   ·exact h
def YL(listed:ath Bool):Nat:=listed.toList.count false
def Ll(hi:i<listed.size)(hn: ¬rV listed i):YL (listed.setIfInBounds i true)+1=YL listed:=by
 have hf:listed.toList[i]'(by simpa using hi)=false:=by
  simp[rV,hi] at hn;simpa using hn
 have hpos:0<listed.toList.count false:=List.count_pos_iff.2 (by rw[<-hf];exact qz _);simp only[YL,L9];rw[List.count_set (by simpa using hi),hf];simp only[LR,if_true];have:(true==false)=false:=rfl;rw[this];simp only[B4,if_false];omega
def Hi(h:YL listed=0)(hi:i<listed.size):rV listed i:=by
 have:=List.count_eq_zero.1 h;have hm:listed[i]∈listed.toList:=by simp
 simp only[rV,hi,DO,getElem?_pos,EE];cases hb:listed[i]
 ·rw[hb] at hm;exact absurd hm this
 ·rfl
def X9(Lg:Be ops av=true){o:Oper}(ho:ops[i]? =some o){e:Edge}(he:e∈Cj o):e.on<i:=by
 have hi:=(wM.1 ho).1;have:=db.1 Lg i (by simp[hi]);rw[ho] at this;simp only[bV,db,wG] at this;exact this.1 e he
def ki{n m:Nat}: ¬rV (Array.replicate n false) m:=by
 simp only[rV,DO,Array.getElem?_replicate];split<;>simp
def Bq(Lg:Be ops av=true)(hs:listed.size=ops.size)(hi:i<ops.size)(hn: ¬rV listed i):Region.ready .any ops listed≠[]:=by
 have key:∀m,∀i,i<=m->i<ops.size-> ¬rV listed i->∃j,j∈Region.ready .any ops listed:=by
  intro m
  induction m with
  |zero=>
   intro i him hi hn;have:i=0:=by omega
   subst this;refine⟨0,(so hs).2 ⟨ops[0],by simp[hi],hn,?_⟩⟩;intro e he;have:=X9 Lg (i:=0) (o:=ops[0]) (by simp[hi]) he;omega
  |succ m ih=>
   intro i him hi hn;by_cases hall:∀e∈Cj ops[i],rV listed e.on
   ·exact⟨i,(so hs).2 ⟨ops[i],by simp[hi],hn,hall⟩⟩
   ·have⟨e,he,hne⟩:∃e,e∈Cj ops[i]/\ ¬rV listed e.on:=by
     apply nF;intro hc;exact hall fun e he=>nF fun h=>hc ⟨e,he,h⟩
    have:=X9 Lg (i:=i) (o:=ops[i]) (by simp[hi]) he;exact ih e.on (by omega) (by omega) hne
 obtain⟨j,hj⟩:=key i i (bC _) hi hn;intro e;rw[e] at hj;cases hj
def Bg(Lg:Be ops av=true)(hs:listed.size=ops.size)(hc:∀m,rV listed m->∀j∈av.getD m [],rV listed j)(hi:i∈Region.ready .any ops listed):∀j∈av.getD i [],rV listed j:=by
 obtain⟨o,ho,hn,he⟩:=(so hs).1 hi;have hlt:=(wM.1 ho).1;have:=db.1 Lg i (by simp[hlt]);simp only[ho,bV,db,Iv] at this;intro j hj;obtain⟨e,he',hx⟩:=this.2 j hj;simp only[mY,xw,wJ] at hx;rcases hx with hx|hx
 ·exact hx▸he e he'
 ·exact hc e.on (he e he') j hx
def Bi{rd:atg Nat}{o:Oper}{K:Act->apT->Prop}(ho:ops[i]? =some o)(Pl:∀c,o.op≠ .defer c)
 (h:if Region.wanted o (yielded ops a.tmps) then o.wp P a w K Q else K (a.put o.dst undef) w):GR (hC rd) P ops Q i K a w:=by
 unfold GR;simp only[ho];split
 ·rename_i hw;rw[if_pos hw] at h;exact HM Pl h
 ·rename_i hw;rw[if_neg hw] at h;exact⟨fun _ _=>trivial,h⟩
def PJ{F:Fence}(hq:Q .normal a w)(fuel:Nat)(listed:ath Bool)(hsz:listed.size=ops.size)(hL:∀j,j<ops.size->rV listed j):uk F P ops Q fuel listed a w:=by
 have hr:Region.ready .any ops listed=[]:=by
  apply List.eq_nil_iff_forall_not_mem.2;intro i hi;obtain⟨o,ho,hn,_⟩:=(so hsz).1 hi;exact hn<|hL i (wM.1 ho).1
 cases fuel with
 |zero=>exact⟨hr,hq⟩
 |succ f=>exact⟨fun _=>hq,fun i hi=>by rw[hr] at hi;cases hi⟩
def Vc{F:Fence}(Lg:Be ops av=true)(ON:vE ops k av=true):∀(l:ard Oper)
  (i fuel:Nat) (listed:ath Bool) (a:Act) (w:apT),l=ops.toList.drop i->k<=i->i<=ops.size->listed.size=ops.size->(∀j,j<ops.size->(rV listed j↔j<i))->
   (∀m,rV listed m->∀j∈av.getD m [],rV listed j)->YL listed<=fuel->wpListIn F 0 P ops Q l a w->uk F P ops Q fuel listed a w:=by
 intro l
 induction l with
 |nil=>
  intro i fuel listed a w hl hki hi hsz hL hc hu hw;have:ops.size<=i:=by simpa using List.drop_eq_nil_iff.1 hl.symm
  exact PJ hw fuel listed hsz (fun j hj=>(hL j hj).2 (by omega))
 |cons o l ih=>
  intro i fuel listed a w hl hki hi hsz hL hc hu hw;have JP:i<ops.size:=by
   apply nF;intro Ui;rw[List.drop_eq_nil_of_le (by simp<;>omega)] at hl;cases hl
  have hnl: ¬rV listed i:=fun h=>by have:=(hL i JP).1 h;omega
  have ho:ops[i]? =some o:=by
   have:(ops.toList.drop i)[0]? =some o:=by rw[<-hl];rfl
   simpa using this
  have UX:l=ops.toList.drop (i+1):=by
   have:=congrArg List.tail hl;simpa using this
  have hne:=Bq Lg hsz JP hnl;have only:∀j∈Region.ready .any ops listed,j=i:=by
   intro j hj;obtain⟨o',V4,hn,_⟩:=(so hsz).1 hj;have ak6:=(wM.1 V4).1;have hji:i<=j:=by
    apply nF;intro hlt;exact hn ((hL j ak6).2 (by omega))
   have aoV:=Bg Lg hsz hc hj;simp only[vE,bV,db,rA,mY,wG,wJ] at ON;rcases ON.2 j ak6 with hx|hx
   ·omega
   ·apply nF;intro hne;have:=(hL i JP).1 (aoV i (hx i (by omega)));omega
  cases fuel with
  |zero=>
   exact absurd (Hi (by omega)<|hsz▸JP) hnl
  |succ f=>
   refine⟨fun e=>absurd e hne,fun j hj=>?_⟩;have hji:=only j hj;subst hji;have wa:j<listed.size:=hsz▸JP;have next:∀a' w',wpListIn F 0 P ops Q l a' w'->uk F P ops Q f (listed.setIfInBounds j true) a' w':=by
    intro a' w' hw';refine ih (j+1) f _ a' w' UX (by omega) (by omega) (by simp[hsz]) ?_ ?_ ?_ hw'
    ·intro m hm;rw[kA wa,hL m hm];omega
    ·intro m hm x hx;rw[kA wa] at hm⊢;rcases hm with hm|hm
     ·subst hm;exact .inr<|Bg Lg hsz hc hj x hx
     ·exact .inr<|hc m hm x hx
    ·have:=Ll wa hnl;omega
   unfold wpListIn at hw;unfold GR;simp only[ho];split
   ·rename_i hwt;rw[if_pos hwt] at hw;exact GS next hw
   ·rename_i hwt;rw[if_neg hwt] at hw;exact⟨hw.1,next _ _ hw.2⟩
def other(listed:ath Bool)(S:ard Ctx)(k lo:Nat)(t:Nat):Bool:=(List.range k).all fun j=> !(decide (lo<=j)&&listed.getD j false)||(S.getD j []).all fun q=>q.1 !=t
def Pc(listed:ath Bool)(S:ard Ctx)(k:Nat)(Γ:Ctx):Ctx:=
 ((List.range k).flatMap fun j=>if listed.getD j false=true then(S.getD j []).filter (fun q=>other listed S k (j+1) q.1) else [])++
 Γ.filter fun q=>other listed S k 0 q.1
def En{lo t:Nat}:other listed S k lo t=true↔∀j c,lo<=j->j<k->rV listed j->S[j]? =some c->∀q∈c,q.1≠t:=by
 simp only[other,db,rA,mY,gY,Bool.and_eq_false_imp,wG,oj,ne_eq];constructor
 ·intro h j c h1 h2 h3 h4 q hq;rcases h j h2 with h|h
  ·have:=h h1;rw[h3] at this;cases this
  ·exact h q (by rw[gy,h4];exact hq)
 ·intro h j hj;by_cases hl:lo<=j/\listed.getD j false=true
  ·right;intro q hq;rw[gy] at hq;cases hc:S[j]? with
   |none=>rw[hc] at hq;cases hq
   |some c=>rw[hc] at hq;exact h j c hl.1 hj hl.2 hc q hq
  ·left;intro h1;cases hb:listed.getD j false
   ·rfl
   ·exact absurd ⟨h1,hb⟩ hl
def mh{Γ:Ctx}{q:Nat×bL}:q∈Pc listed S k Γ↔
  (∃j c,j<k/\rV listed j/\S[j]? =some c/\q∈c/\∀j' c',j<j'->j'<k->rV listed j'->S[j']? =some c'->∀q'∈c',q'.1≠q.1)\/(q∈Γ/\∀j c',j<k->rV listed j->S[j]? =some c'->∀q'∈c',q'.1≠q.1):=by
 simp only[Pc,lN,List.mem_flatMap,rA,B0];constructor
 ·rintro(⟨j,hj,h⟩|⟨h1,h2⟩)
  ·left;split at h
   ·rename_i hl;obtain⟨h1,h2⟩:=B0.1 h;rw[En] at h2;cases hc:S[j]? with
    |none=>rw[gy,hc] at h1;cases h1
    |some c=>
     rw[gy,hc] at h1;exact⟨j,c,hj,hl,hc,h1,fun j' c' h3 h4 h5 h6=>h2 j' c' h3 h4 h5 h6⟩
   ·cases h
  ·right;rw[En] at h2;exact⟨h1,fun j c' h3 h4 h5=>h2 j c' (jc _) h3 h4 h5⟩
 ·rintro(⟨j,c,hj,hl,hc,hq,hm⟩|⟨h1,h2⟩)
  ·left;refine⟨j,hj,?_⟩;have UX:listed.getD j false=true:=hl;rw[if_pos UX];exact B0.2 ⟨by rw[gy,hc];exact hq,En.2 fun j' c' h3 h4 h5 h6=>hm j' c' h3 h4 h5 h6⟩
  ·exact .inr ⟨h1,En.2 fun j c' _ h3 h4 h5=>h2 j c' h3 h4 h5⟩
def Ar(c:Ctx):ard (Nat×ard Nat):=c.map fun p=>(p.1,p.2.bH)
def DS{p:Nat×bL}(h:p∈c):(p.1,p.2.bH)∈Ar c:=mF.2 ⟨p,h,rfl⟩
def nN{p:Nat×bL}{l:ard Nat}(h:p∈c)(hl:p.1∈l):meets (Ar c) l=true:=
 Iv.2 ⟨_,DS h,by simpa using hl⟩
def Es{t:Nat}(h:meets (Ar c) [t]=true):t∈c.map (·.1):=by
 obtain⟨x,hx,hy⟩:=Iv.1 h;obtain⟨y,hy1,rfl⟩:=mF.1 hx;simp at hy;exact mF.2 ⟨y,hy1,hy⟩
def abZ{m:Nat}(h:rV listed m):m<listed.size:=by
 apply nF;intro Ui;simp[rV,DO,Array.getElem?_eq_none<|Nat.le_of_not_lt Ui] at h
def Wj{gP:ard (ard Nat)}{gK:ard Bool}{kl:ard (ard<|Nat×ard Nat)}{L:ard Nat}{Γ CS:Ctx}{ts:ard Nat}(gq:pb (ops.toList.take k)=true)(Lg:Be ops av=true)(Pl:Pu k kl gP gK L av=true)(ON:vE ops k av=true)
 (IJ:S.reverse.map Ar=kl)(hL:rB Γ=L)
 {w0:aq P}(hp:cd P N ops Γ [] (ops.toList.take k) gP gK S)(Cd:uX (S.flatten++Γ) ts CS)
 {H0:HV}(R0:∀a w H,Sat w0 H0 N CS a w H->wpListIn (hC w0.rd) 0 P ops Q (ops.toList.drop k) a w):
  ∀(fuel:Nat) (listed:ath Bool) (a:Act) (w:apT) (H:HV),listed.size=ops.size->(∀m,rV listed m->∀j∈av.getD m [],rV listed j)->(∀i,k<=i->i<ops.size-> ¬rV listed i)->
   YL listed<=fuel->Sat w0 H0 N (Pc listed S.reverse k Γ) a w H->uk (hC w0.rd) P ops Q fuel listed a w:=by
 obtain⟨⟨S',hS',hlen⟩,hnl,Pk,Sx⟩:=hp.at_;have hkn:k<=ops.size:=by simp[vE] at ON;exact ON.1
 have hSl:S.length=k:=by rw[hS'];simp[hlen,hkn]
 have V5:gP.length=k:=by rw[hnl];simp[hkn]
 have ab8:gK.length=k:=by rw[Pk];simp[hkn]
 have key:∀j c,S.reverse[j]? =some c->kl.getD j []=Ar c:=by
  intro j c h;rw[<-IJ,gy,mH,h]
  rfl
 simp only[Pu,bV] at Pl;obtain⟨ZO,Qn⟩:=Pl;have Wn:∀i j (ci cj:Ctx),i<j->j<k->S.reverse[i]? =some ci->S.reverse[j]? =some cj->((∃p∈ci,p.1∈gP.getD j [])\/(∃p∈ci,∃q∈cj,p.1=q.1)\/(∃p∈cj,p.1∈gP.getD i []))->i∈av.getD j []:=by
  intro i j ci cj Sv hj h1 h2 h3;simp only[db,rA,mY,gY,wJ] at ZO;rcases ZO j hj i Sv with h|h
  ·rw[key i ci h1,key j cj h2] at h;simp only[wI] at h;exfalso;rcases h3 with⟨p,hp,h3⟩|⟨p,hp,q,hq,h3⟩|⟨p,hp,h3⟩
   ·have:=nN hp h3;rw[h.1.1] at this;cases this
   ·have:=nN (l:=(Ar cj).map (·.1)) hp (by rw[h3];exact mF.2 ⟨_,DS hq,rfl⟩);rw[h.1.2] at this;cases this
   ·have:=nN hp h3;rw[h.2] at this;cases this
  ·exact h
 have lean:∀j (cj:Ctx),j<k->gK.getD j true=true->S.reverse[j]? =some cj->∀p∈cj.take 1,(p.1∉L)/\∀i (ci:Ctx),i<k->S.reverse[i]? =some ci->∀q∈ci,p.1∈q.2.bH->(i≠j/\(q.1∈cj.map (·.1)\/j∈av.getD i []\/∃m,m∈av.getD j []/\i<m/\meets (kl.getD m []) [q.1]=true))\/(i=j/\∀p'∈cj.take 1,p'.1≠q.1):=by
  intro j cj hj hpj h1 p hp;have tk:(Ar cj).take 1=Ar (cj.take 1):=by simp[Ar,List.map_take]
  simp only[db,rA,mY,gY,bV] at Qn;rcases Qn j hj with h|⟨h2,h3⟩
  ·rw[hpj] at h;cases h
  ·rw[key j cj h1,tk] at h2;refine⟨(fun hm=>by have:=nN hp hm;rw[h2] at this;cases this),fun i ci hi h4 q hq h5=>?_⟩;have h6:=h3 i hi (q.1,q.2.bH) (by rw[key i ci h4];exact DS hq);have h6:=h6 p.1 h5;simp only[mY,gY,bV,oj,ne_eq,wJ] at h6;rcases h6 with(h6|⟨h6,(h7|h7)|h7⟩)|⟨h6,h7⟩
   ·have:=nN (l:=[p.1]) hp (by simp);rw[key j cj h1,tk] at h6;rw[h6] at this;cases this
   ·refine .inl ⟨h6,.inl ?_⟩;rw[key j cj h1] at h7;exact Es h7
   ·exact .inl ⟨h6,.inr<| .inl h7⟩
   ·obtain⟨m,hm,h8⟩:=Iv.1 h7;simp only[bV,wG] at h8;exact .inl ⟨h6,.inr<| .inr ⟨m,hm,h8.1,h8.2⟩⟩
   ·refine .inr ⟨by simpa using h6,fun p' hp' e=>?_⟩;rw[key j cj h1,tk] at h7;have:=nN (l:=[q.1]) hp' (by simp[e]);rw[h7] at this;cases this
 have pure:∀i o,i<k->ops[i]? =some o->∃c,S.reverse[i]? =some c/\WG P N ops Γ (gP.getD i []) (gK.getD i true) S.reverse i o c:=by
  intro i o hi ho;have e1:gP[i]? =some (gP.getD i []):=by simp[gy,V5,hi]
  have e2:gK[i]? =some (gK.getD i true):=by simp[gy,ab8,hi]
  obtain⟨p,h1,h2⟩:=Sx i o _ _ (by rw[L5 hi];simpa using ho) e1 e2;exact⟨p,by simpa using h1,by simpa using h2⟩
 have toTail:∀(fuel:Nat) (listed:ath Bool) (a:Act) (w:apT) (H:HV),listed.size=ops.size->(∀m,rV listed m->∀j∈av.getD m [],rV listed j)->(∀i,k<=i->i<ops.size-> ¬rV listed i)->
   YL listed<=fuel->(∀j,j<k->rV listed j)->Sat w0 H0 N (Pc listed S.reverse k Γ) a w H->uk (hC w0.rd) P ops Q fuel listed a w:=by
  intro fuel listed a w H hsz hc IJ hu hall cn;refine Vc Lg ON _ k fuel listed a w rfl (bC _) hkn hsz ?_ hc hu<|R0 a w H<|cn.weaken ?_
  ·intro j hj;constructor
   ·intro h;apply nF;intro Ui;exact IJ j (by omega) hj h
   ·exact hall j
  ·intro q hq;have Sx:=mL (S:=S.reverse) (fun j _=>rfl)<|Cd.looks q hq
   rw[hSl] at Sx;rw[mh];rcases Sx with⟨j,c,hj,h1,h1',h2⟩|⟨h1,h2⟩
   ·exact .inl ⟨j,c,hj,hall j hj,h1,h1',fun j' q' h3 h4 _ h5=>h2 j' q' h3 h4 h5⟩
   ·exact .inr ⟨h1,fun j q' h3 _ h5=>h2 j q' h3 h5⟩
 intro fuel
 induction fuel with
 |zero=>
  intro listed a w H hsz hc IJ hu cn;exact toTail 0 listed a w H hsz hc IJ hu (fun j hj=>Hi (by omega) (by omega)) cn
 |succ f ih=>
  intro listed a w H hsz hc IJ hu cn;by_cases hall:∀j,j<k->rV listed j
  ·exact toTail (f+1) listed a w H hsz hc IJ hu hall cn
  ·have⟨j0,hj0,hn0⟩:∃j,j<k/\ ¬rV listed j:=by
    apply nF;intro aii;exact hall fun j hj=>nF fun h=>aii ⟨j,hj,h⟩
   refine⟨fun e=>absurd e (Bq Lg hsz (by omega) hn0),fun i hi=>?_⟩;obtain⟨o,ho,Ql,_⟩:=(so hsz).1 hi;have JP:=(wM.1 ho).1;have Mg:i<listed.size:=hsz▸JP;have DT:=Bg Lg hsz hc hi;by_cases Su:i<k
   ·obtain⟨c,Fc,Ss⟩:=pure i o Su ho;obtain⟨c8,hex,bO⟩:=Ss.exec;have hin:∀q∈c8,q∈Pc listed S.reverse k Γ:=by
     intro q hq;obtain⟨hm,hx⟩:=bO q hq;have up:∀j' c',i<=j'->j'<k->rV listed j'->S.reverse[j']? =some c'->∀q'∈c',q'.1≠q.1:=by
      intro j' c' h3 h4 h5 h6 q' hq' e;rcases Nat.lt_or_eq_of_le h3 with h3|h3
      ·have:=Wn i j' c c' h3 h4 Fc h6 (.inr<| .inr ⟨q',hq',e▸hm⟩);exact Ql<|hc j' h5 i this
      ·subst h3;exact Ql h5
     refine mh.2 ?_;rcases hx with⟨j,cj,hj,RX,Ub,wN⟩|⟨hx,wN⟩
     ·refine .inl ⟨j,cj,by omega,DT j<|Wn j i cj c hj Su RX Fc<| .inl ⟨q,Ub,hm⟩,RX,Ub,fun j' c' h3 h4 h5 h6=>?_⟩;rcases jI j' i with h7|h7
      ·exact wN j' c' h3 h7 h6
      ·exact up j' c' h7 h4 h5 h6
     ·refine .inr ⟨hx,fun j' c' h4 h5 h6=>?_⟩;rcases jI j' i with h7|h7
      ·exact wN j' c' h7 h6
      ·exact up j' c' h7 h4 h5 h6
    have qh:gK.getD i true=true->∀q∈Pc listed S.reverse k Γ,q.1∉c.map (·.1)->∀p∈c.take 1,p.1∉q.2.bH:=by
     intro hpt q hq hnk p hp e;obtain⟨l1,l2⟩:=lean i c Su hpt Fc p hp;rcases mh.1 hq with⟨j,cj,hj,hlj,RX,Ub,wN⟩|⟨hq,_⟩
     ·rcases(l2 j cj hj RX q Ub e).resolve_right (fun h=>by obtain⟨rfl,_⟩:=h;exact Ql hlj)|>.2 with h|h
      ·exact hnk h
      ·rcases h with h|⟨m,hm,him,hme⟩
       ·exact Ql<|hc j hlj i h
       ·have hlm:=DT m hm;have hmk:m<k:=by
         apply nF;intro Ui;exact IJ m (by omega) (hsz▸abZ hlm) hlm
        obtain⟨cm,hcm,_⟩:=pure m ops[m] hmk (by simp<;>omega);rw[key m cm hcm] at hme;obtain⟨y,hy1,hy2⟩:=mF.1<|Es hme
        exact wN m cm (by omega) hmk hlm hcm y hy1 hy2
     ·exact l1<|hL▸DP hq e
    have NT:gK.getD i true=true->∀q∈c.take 1,∀p∈c.take 1,p.1∉q.2.bH:=by
     intro hpt q hq p hp e;rcases(lean i c Su hpt Fc p hp).2 i c Su Fc q (tC hq) e with h|h
     ·exact h.1 rfl
     ·exact h.2 q hq rfl
    obtain⟨Γn,wj,Qj⟩:=hex _ hin qh NT;refine Bi ho (xZ gq (B6 (i:=i) (by rw[L5 Su];simpa using ho)))<|wj w0 H0 a w H cn _ Q fun a' w' H' La=>?_
    refine ih _ _ w' H' (by simp[hsz]) ?_ ?_ ?_<|La.weaken ?_
    ·intro m hm x hx;rw[kA Mg] at hm⊢;rcases hm with hm|hm
     ·subst hm;exact .inr<|DT x hx
     ·exact .inr<|hc m hm x hx
    ·intro m ZG hm2;rw[kA Mg];rintro(h|h)
     ·omega
     ·exact IJ m ZG hm2 h
    ·have:=Ll Mg Ql;omega
    ·intro q hq;refine Qj q ?_;rcases mh.1 hq with⟨j,cj,hj,hlj,RX,Ub,wN⟩|⟨hq,wN⟩
     ·by_cases hji:j=i
      ·subst hji;rw[Fc] at RX;cases RX;exact B7 _ Ub
      ·have ach:rV listed j:=by
        rw[kA Mg] at hlj;rcases hlj with h|h
        ·exact absurd h hji
        ·exact h
       refine Ap _ (tc.2 ⟨mh.2 (.inl ⟨j,cj,hj,ach,RX,Ub,fun j' q' h3 h4 h5 h6=>wN j' q' h3 h4 (by rw[kA Mg];exact .inr h5) h6⟩),fun e=>?_⟩);obtain⟨p,hp,e⟩:=mF.1 e;rcases jI i j with h7|h7
       ·exact Ql<|hc j ach i<|Wn i j c cj h7 hj Fc RX<| .inr<| .inl ⟨p,hp,q,Ub,e⟩
       ·exact wN i c (by omega) Su (by rw[kA Mg];exact .inl rfl) Fc p hp e
     ·refine Ap _ (tc.2 ⟨mh.2 (.inr ⟨hq,fun j q' h4 h5 h6=>wN j q' h4 (by rw[kA Mg];exact .inr h5) h6⟩),fun e=>?_⟩);obtain⟨p,hp,e⟩:=mF.1 e;exact wN i c Su (by rw[kA Mg];exact .inl rfl) Fc p hp e
   ·exfalso;simp only[vE,bV,db,rA,mY,wG,wJ] at ON;rcases ON.2 i JP with hx|hx
    ·omega
    ·exact hn0 (DT j0 (hx j0 (by omega)))
def WO{gP:ard (ard Nat)}{gK:ard Bool}{kl:ard (ard<|Nat×ard Nat)}{L:ard Nat}{Γ CS:Ctx}{ts:ard Nat}{id:Nat}(hm:P.follows .mixedOrders=true)(gq:pb (ops.toList.take k)=true)(Lg:Be ops av=true)(Pl:Pu k kl gP gK L av=true)(ON:vE ops k av=true)
 (IJ:S.reverse.map Ar=kl)(hL:rB Γ=L)
 {w0:aq P}(hp:cd P N ops Γ [] (ops.toList.take k) gP gK S)(Cd:uX (S.flatten++Γ) ts CS)
 {H0:HV}(R0:∀a w H,Sat w0 H0 N CS a w H->wpListIn (hC w0.rd) 0 P ops Q (ops.toList.drop k) a w)
 {H:HV}(hs:Sat w0 H0 N Γ a w H):(Code.region id ops true).wpIn (hC w0.rd) 0 P Q a w:=by
 refine Cs hm (Wj gq Lg Pl ON IJ hL hp Cd R0 ops.size _ a _ H (by simp) ?_ ?_ ?_ ?_)
 ·intro m h;exact absurd h ki
 ·intro i _ hi h;exact absurd h ki
 ·simp[YL]
 ·have he:Ext w H {w with drawn:=w.drawn+1} H:=⟨⟨⟨rfl,rfl,rfl,bC _,fun _ _=>rfl⟩,GN.of<|vx _⟩,HV.le.refl _,fun _ _=>rfl,hs.sub⟩;refine(Dp hs he).weaken fun q hq=>?_
  rcases mh.1 hq with⟨j,_,_,hl,_⟩|⟨hq,_⟩
  ·exact absurd hl ki
  ·exact hq
end
section
variable[D:DR]
def Goal(P:arb)(w0:aq P)(H0:HV)(N:Nat)(c:Code)(Q:Exit->Act->apT->Prop)(Γ:Ctx):Prop:=
 ∀a w H,Sat w0 H0 N Γ a w H->c.wpIn (hC w0.rd) 0 P Q a w
def lV{P:arb}(w0:aq P)(H0:HV)(N:Nat)(K:Act->apT->Prop)(Γ:Ctx):Prop:=∀a w H,Sat w0 H0 N Γ a w H->K a w
end
section
variable[D:DR]
variable{P:Program}{w0:aq P}{H0:HV}{N:Nat}{Q:Exit->Act->World->Prop}{Γ az:Ctx}
variable{w:apT}{ρ:Type}{a:Act}{fn:Func}{c:Code}{r:ρ}{H:HV}{args:ard Ty}{id:Nat}{ts:ard Nat}{n:Nat}{α:Type}{f:FuncId}{E:aq9}{sz:Nat}{rs:ard ResultVar}{l:ard Ty}{x:Code}{t:Nat}{b:Bool}{K:α->atg ρ}
def ah{y:Code}(h:Goal P w0 H0 N x (Exit.then (y.wpIn (hC w0.rd) 0 P Q) Q) Γ):Goal P w0 H0 N (.seq x y) Q Γ:=fun a w H hs=>wpIn_seq<|h a w H hs
def DU{l:ard Oper}(gq:pb l=true)(h:ft P w0 N l.toArray l Γ az)(k:lV w0 H0 N (Q .normal) az):Goal P w0 H0 N (.region id l.toArray false) Q Γ:=
 fun a w H hs=>wpIn_region_lit<|h.sound gq H0 a w H hs Q k
def R7{ops:ath Oper}{k:Nat}{S:ard Ctx}{CS:Ctx}(gq:pb ops.toList=true)(kl:ard (ard<|Nat×ard Nat))(L:ard Nat)(av gP:ard (ard Nat))(gK:ard Bool)(hm:P.follows .mixedOrders=true)(hc:(Be ops av&&Pu k kl gP gK L av&&vE ops k av)=true)
 (hp:cd P N ops Γ [] (ops.toList.take k) gP gK S)(IJ:S.reverse.map Ar=kl)(hL:rB Γ=L)(Cd:uX (S.flatten++Γ) ts CS)(R0:ft P w0 N ops (ops.toList.drop k) CS az)(kk:lV w0 H0 N (Q .normal) az):Goal P w0 H0 N (.region id ops true) Q Γ:=by
 simp only[bV] at hc;have h1:pb (ops.toList.take k)=true:=db.2 fun o ho=>db.1 gq o<|tC ho
 have h2:pb (ops.toList.drop k)=true:=db.2 fun o ho=>db.1 gq o<|yG ho
 exact fun a w H hs=>WO hm h1 hc.1.1 hc.1.2 hc.2 IJ hL hp Cd (H0:=H0) (fun a w H hs=>R0.sound h2 H0 a w H hs Q kk) hs
def aj(k:lV w0 H0 N (Q .normal) Γ):Goal P w0 H0 N .skip Q Γ:=fun a w H hs=>wpIn_skip<|k a w H hs
def an(k:lV w0 H0 N (Q .ret) Γ):Goal P w0 H0 N .ret Q Γ:=fun a w H hs=>wpIn_ret<|k a w H hs
def aN(k:lV w0 H0 N (Q<| .exit id) Γ):Goal P w0 H0 N (.exit id) Q Γ:=fun a w H hs=>wpIn_exit<|k a w H hs
def ai(h:Goal P w0 H0 N c (Exit.inBlock id Q) Γ):Goal P w0 H0 N (.block id c) Q Γ:=fun a w H hs=>wpIn_block<|h a w H hs
def rY{y:Code}(hl:look Γ t=some (.val<|aY b))(hx:b=true->Goal P w0 H0 N x Q Γ)(hy:b=false->Goal P w0 H0 N y Q Γ):Goal P w0 H0 N (.cond (.tmp t) x y) Q Γ:=by
 intro a w H hs;have hv:aV a t= .bool b:=hs.holds _<|ay hl
 exact wpIn_cond_split (t:=b) hv (fun h=>hx h a w H hs)<|fun h=>hy h a w H hs
def lP(h:uX Γ ts az)(k:Goal P w0 H0 N c Q az):Goal P w0 H0 N c Q Γ:=fun a w H hs=>k a w H<|hs.weaken h.sub
def wp_loop_ghost{F:Fence}{ι:Type}(I:ι->Act->apT->Prop)(μ:ι->Nat)(i0:ι)(anA:I i0 a w)
 (round:∀i x y,I i x y->c.wpIn F n P (Exit.then (fun a' w'=>∃j,I j a' w'/\μ j<μ i) Q) x y):(Code.loop c).wpIn F n P Q a w:=by
 intro b k cs hro hb hr;have key:∀n i a w,μ i=n->I i a w->∃e a' w',Q e a' w'/\ArrivesIn (Machine.fenced P F) P (lone (b.atR a (.code c:: .inLoop c::k)) cs w) b k cs e a' w':=by
  intro n
  induction n using Nat.strongRecOn with
  |_ n ih=>
   intro i a w hn hI;obtain⟨e,a1,w1,hq,Uj⟩:=round i a w hI b (.inLoop c::k) cs hro hb hr;cases e with
   |normal=>
    obtain⟨j,hj,hlt⟩:=hq;obtain⟨e2,a2,w2,hq2,alA⟩:=ih (μ j) (hn▸hlt) j a1 w1 rfl hj;exact⟨e2,a2,w2,hq2,.of_steps (StepsIn.trans Uj<| .one (fenced_calm hb hr rfl) stepR_inLoop) alA⟩
   |exit id=>exact⟨_,a1,w1,hq,.pass (x:= .inLoop c) rfl (fun _ _=> .inl (by simp)) Uj⟩
   |goto l=>exact⟨_,a1,w1,hq,.pass (x:= .inLoop c) rfl (fun _ _=> .inl (by simp)) Uj⟩
   |ret=>exact⟨_,a1,w1,hq,.pass (x:= .inLoop c) rfl (fun _ _=> .inl (by simp)) Uj⟩
   |panic ch=>exact⟨_,a1,w1,hq,.pass (x:= .inLoop c) rfl (fun _ _=> .inl (by simp)) Uj⟩
   |outgrown=>exact⟨_,a1,w1,hq,.pass (x:= .inLoop c) rfl (fun _ _=> .inl (by simp)) Uj⟩
 obtain⟨e,a',w',hq,Uj⟩:=key _ i0 a w rfl anA;exact⟨e,a',w',hq,.of_steps (.one (fenced_calm hb hr rfl) stepR_loop) Uj⟩
def Ci(h:qj w0 N Γ az)(k:Goal P w0 H0 N c Q az):Goal P w0 H0 N c Q Γ:=fun a w H hs=>by
 obtain⟨H',oV⟩:=h H0 a w H hs;exact k a w H' oV
def fi{K:Act->apT->Prop}(h:qj w0 N Γ az)(k:lV w0 H0 N K az):lV w0 H0 N K Γ:=fun a w H hs=>by
 obtain⟨H',oV⟩:=h H0 a w H hs;exact k a w H' oV
def bd{α ρ:Type}(e:atg α)(K:α->atg ρ):atg ρ:=match e with
 |none=>none
 |some x=>K x
def gC{ρ:Type}(c:Bool)(K:atg ρ):atg ρ:=match c with
 |true=>K
 |false=>none
def fR{α ρ:Type}(g:Bool)(d:α)(e:atg α)(K:α->atg ρ):atg ρ:=match g with
 |true=>bd e K
 |false=>K d
def jn{α ρ:Type}(K:α->atg ρ)(E:(α->atg ρ)->atg ρ):atg ρ:=E K
def lp{σ ρ:Type}:Nat->((σ->atg ρ)->σ->atg ρ)->σ->atg ρ
 |0,_,_=>none
 |n+1,B,s=>B (lp n B) s
def ab{e:atg α}(h:bd e K=some r):∃x,e=some x/\K x=some r:=by
 cases e with
 |none=>cases h
 |some x=>exact⟨x,rfl,h⟩
def rE{c:Bool}{K:atg ρ}(h:gC c K=some r):c=true/\K=some r:=by
 cases c
 ·cases h
 ·exact⟨rfl,h⟩
def aH{g:Bool}{d:α}{e:atg α}(h:fR g d e K=some r):∃x,(g=true->e=some x)/\K x=some r:=by
 cases g
 ·exact⟨d,(fun e=>nomatch e),h⟩
 ·obtain⟨x,h1,h2⟩:=ab h;exact⟨x,fun _=>h1,h2⟩
def ai2{x y:atg ρ}{r:atg ρ}(h:cond b x y=r)(hb:b=true):x=r:=by subst hb;exact h
def ai3{x y:atg ρ}{r:atg ρ}(h:cond b x y=r)(hb:b=false):y=r:=by subst hb;exact h
def Mid{P:arb}{α ρ:Type}(w0:aq P)(H0:HV)(N:Nat)(Mm:α->Ctx)(k:α->atg ρ)(r:ρ)(a:Act)(w:apT):Prop:=∃i,k i=some r/\∃H,Sat w0 H0 N (Mm i) a w H
def DV(Mm:α->Ctx){E:(α->atg ρ)->atg ρ}(hm:jn K E=some r)
 (h:∀k,E k=some r->Goal P w0 H0 N x (Exit.then (Mid w0 H0 N Mm k r) Q) Γ)(kk:∀i,K i=some r->lV w0 H0 N (Q .normal) (Mm i)):Goal P w0 H0 N x Q Γ:=
 fun a w H hs=>BR (h K hm a w H hs) fun e a' w' q=>by
  cases e with
  |normal=>obtain⟨i,hi,H',oV⟩:=q;exact kk i hi a' w' H' oV
  |_=>exact q
def amd{Mm:α->Ctx}{k:α->atg ρ}{i:α}(hm:k i=some r)(h:uX Γ ts (Mm i)):lV w0 H0 N (fun a w=>Mid w0 H0 N Mm k r a w) Γ:=
 fun _ _ H hs=>⟨i,hm,H,hs.weaken h.sub⟩
def acJ{σ:Type}(c8:σ->Ctx){B:(σ->atg ρ)->σ->atg ρ}{s0:σ}(hm:lp n B s0=some r)(h0:uX Γ ts (c8 s0))
 (round:∀(k:σ->atg ρ) (s:σ),B k s=some r->Goal P w0 H0 N c (Exit.then (Mid w0 H0 N c8 k r) Q) (c8 s)):Goal P w0 H0 N (.loop c) Q Γ:=by
 intro a w H hs;refine wp_loop_ghost (fun(i:Nat×σ) a w=>lp i.1 B i.2=some r/\∃H,Sat w0 H0 N (c8 i.2) a w H) (fun i=>i.1) (n,s0) ⟨hm,H,hs.weaken h0.sub⟩ ?_;rintro⟨m,s⟩ a w ⟨hl,H,hs⟩;cases m with
 |zero=>cases hl
 |succ m=>
  refine BR (round (lp m B) s hl a w H hs) fun e a' w' q=>?_
  cases e with
  |normal=>obtain⟨i,hi,H',oV⟩:=q;exact⟨(m,i),⟨hi,H',oV⟩,Nat.lt_succ_self m⟩
  |_=>exact q
inductive Yl where
 |vs(l:ard Ty)
 |fr(E:aq9)(sz:Nat)(l:ard Ty)
def vO(H:HV):ard Ty->apU->Prop
 |[τ],v=>τ.ok H v
 |l,v=>∃vs,v= .tuple vs/\BF H l vs.toList
def Yl.holds(n:Nat)(w:apT)(H:HV)(v:apU):Yl->Prop
 | .vs l=>vO H l v
 | .fr E sz l=>∃xs,w.ownsRow 0 E sz v l.length xs/\uD H l xs/\∀b,v.ownBlock=some b->n<=b/\H b=none
def dY(P:arb)(f:FuncId):Bool:=
 match P.funcs[f]? with
 |some fn=>fn.body.isSome&& !(fn.name== "runtime.NumGoroutine")
 |none=>false
def Returns(w:apT)(H:HV)(c6:Yl)(e:Ending)(w':apT):Prop:=
 ∃v,e= .returned v/\E0 w.heap.size w w'/\∃H',(∀r,r<w.heap.size->H' r=H r)/\(∀r o,H' r=some o->w'.heap[r]? =some o)/\c6.holds w.heap.size w' H' v
structure al(P:arb)(f:FuncId)(args:ard Ty)(c6:Yl):Prop where
 can:dY P f=true
 run:∀(w:apT) (H:HV) (vs:ard apU),(∀r o,H r=some o->w.heap[r]? =some o)->pI P H->BF H args vs->Calls P f vs.toArray w (Returns w H c6)
def al.am8{c6:Yl}(h: @al DR.strict P f args c6):al P f args c6:=
 ⟨al.can (D:=DR.strict) h,fun w H vs sub gl ha=>(al.run (D:=DR.strict) h w H vs sub gl ha).mono fun e w' ⟨v,e1,hb,r⟩=>⟨v,e1,⟨E0.toBelow (D:=DR.strict) hb,GN.of<|E0.drawn (D:=DR.strict) hb⟩,r⟩⟩
def kV:Nat->ard Ty->Ctx
 |_,[]=>[]
 |i,τ::l=>(i,.val τ)::kV (i+1) l
def zL{H:HV}{B:aq P}{a:Act}{w:apT}:∀{l:ard Ty} {vs:ard apU} (i:Nat),BF H l vs->(∀j v,vs[j]? =some v->aV a (i+j)=v)->∀p∈kV i l,p.2.holds B a w H (aV a p.1)
 |[],_,_,_,_,p,hp=>by simp[kV] at hp
 |τ::l,_,i,⟨v,rest,e,hv,hr⟩,hg,p,hp=>by
  subst e;simp only[kV,bM] at hp;rcases hp with e|hp
  ·subst e;have:=hg 0 v rfl;simp only[tG] at this;rw[this];exact hv
  ·exact zL (i+1) hr (fun j v hj=>by have:=hg (j+1) v (by simpa using hj);rw[<-this];congr 1;omega) p hp
def Gz{w:apT}{v:apU}{b:Nat}:∀{l:ard Ty} {i:Nat},∀p∈kV i l,¬p.2.owns w v b
 |[],_,p,hp=>by simp[kV] at hp
 |τ::l,i,p,hp=>by
  simp only[kV,bM] at hp;rcases hp with e|hp
  ·subst e;exact fun h=>h
  ·exact Gz p hp
def Qp{vs:ard apU}(sub:∀r o,H r=some o->w.heap[r]? =some o)(gl:pI P H)(gq:BF H args vs)(hn:args.length<=n):
  Sat (aq.call P w) H n (kV 0 args) {tmps:=vs.toArray++Array.replicate (n-vs.toArray.size) undef,defers:=[]} w H:=by
 have hl:=zf gq;refine⟨trivial,by simp;omega,⟨rfl,rfl,rfl,bC _,bC _,fun _ _ _ _=>rfl⟩,fun _ _ _ _=>rfl,sub,?_,?_,gl⟩
 ·refine zL 0 gq fun j v hj=>?_
  have OP:=(iG.1 hj).1;have e:(vs.toArray++Array.replicate (n-vs.toArray.size) undef)[0+j]? =some v:=by
   rw[Array.getElem?_append_left (by simpa using OP)];simpa using hj
  simp[aV,DO];simp at e;rw[e];rfl
 ·intro p hp q _ _ b hb;exact absurd hb<|Gz p hp
inductive bu(P:arb)(Γ:Ctx):ard ResultVar->ard Ty->Prop where
 |nil:bu P Γ [] []
 |tmp {t:Nat} {τ Fl:Ty} {rs:ard ResultVar} {l:ard Ty} (h:look Γ t=some (.val τ)) (hi:τ=Fl) (r:bu P Γ rs l):bu P Γ (.tmp t::rs) (Fl::l)
 |cell {t T:Nat} {T':aq9} {τ Fl:Ty} {rs:ard ResultVar} {l:ard Ty} (h:look Γ t=some (.own T' τ)) (hT:∀(w:apT) (b:Nat) (x:apU) (E:aq9),w.heap[b]? =some (.cells x.cells E (0,0))->Shape τ.n τ.agg x->(loadVar T ⟨b,0,none⟩).run P w= .ok x w)
   (hi:τ=Fl) (r:bu P Γ rs l):bu P Γ (.cell t T::rs) (Fl::l)
def AT(tmps:ath apU):ResultVar->Sem apU
 | .tmp t=>pure<|tmps.getD t undef
 | .cell a t=>do loadVar t (<-asAddr (tmps.getD a undef))
def Cl{bl:ard Ty}{H':HV}{B:aq P}{v:apU}(h:(bL.buf E sz bl).holds B a w H v)(hle:HV.le H H')(hw:∀b,v.ownBlock=some b->B.mg b->∀o,w.heap[b]? =some o->H' b=some o):(I8 bl).ok H' v:=by
 obtain⟨xs,⟨hx,hc⟩,ho,hn⟩:=h;rcases hc with⟨e,hl⟩|⟨g,cap,cur,e,hB,hg,hcap,hm,hcs,ht⟩
 ·subst e;exact⟨none,0,by rw[hl],by omega,fun hne=>absurd (rT hl) hne⟩
 ·subst e;refine⟨_,cap,rfl,hcap,fun _=>⟨g,0,cur,E,(0,0),rfl,hw g rfl (hn g rfl).2 _ hg,?_,?_⟩⟩
  ·have h1:=nB ho;have h2:xs.length<=cur.size:=by rw[<-ht];simp;exact Nat.min_le_right _ _
   omega
  ·have h1:=nB ho;rw[xA,<-h1,hx,ht];exact ta hle ho
def bu.run{rs:ard ResultVar}{l:ard Ty}(h:bu P Γ rs l){a:Act}{w:apT}{H:HV}(hs:Sat w0 H0 N Γ a w H):
  ∃vs,(rs.mapM<|AT a.tmps).run P w= .ok vs w/\BF H l vs:=by
 induction h with
 |nil=>exact⟨[],by simp,rfl⟩
 | @tmp t τ Fl rs l h hi _ ih=>
  subst hi;obtain⟨vs,h1,h2⟩:=ih;have hv:τ.ok H (aV a t):=hs.holds _<|ay h
  refine⟨aV a t::vs,?_,_,_,rfl,hv,h2⟩;simp only[List.mapM_cons,eN,h1,AT,ot,eE]
  rfl
 | @cell t T T' τ Fl rs l h hT hi _ ih=>
  subst hi;obtain⟨vs,h1,h2⟩:=ih;obtain⟨b,x,e,hb,hx,hn,hB⟩:=hs.holds _<|ay h
  refine⟨x::vs,?_,_,_,rfl,hx,h2⟩;have e':a.tmps.getD t undef= .pointer (some ⟨b,0,none⟩):=e;simp only[List.mapM_cons,eN,AT,e',asAddr,ot,eE,hT w b x T' hb<|τ.shape hx,h1]
def GL(P:arb)(fn:Func)(w0:aq P)(H0:HV)(c6:Yl):Exit->Act->apT->Prop:=bodyPostM (hC none) 0 P fn<|Returns w0.w H0 c6
def sy{w0:aq P}{H0:HV}{N:Nat}{Γ:Ctx}{a:Act}{fn:Func}{R:Ending->apT->Prop}{F:Fence}{n:Nat}(hds:w0.ds=[])(UW:w0.rd=none):∀{ds:ard Deferred} {w:apT} {H:HV},Sat w0 H0 N Γ {a with defers:=ds} w H->
  (∀w' H',Sat w0 H0 N Γ {a with defers:=[]} w' H'->∃v,(results fn a.tmps).run P w'= .ok v w'/\R (.returned v) w')->LeavesInM F n P fn a.tmps R ds .returning w
 |[],w,H,hs,k=>k w H hs
 |d::ds,w,H,hs,k=>by
  have Pl:=hs.nd;rw[hds,vB] at Pl;obtain⟨⟨D,e,h1,h2,h3,h4⟩,hr⟩:=Pl;have h1:=h1 UW;subst e;refine⟨(by simp),.inl ⟨D,_,rfl,run_takeDeferred h2,?_⟩⟩;refine sy hds UW (H:=H) ?_ k;have hg:zM w (w.putObj D<| .deferred none) (some D):=⟨⟨rfl,rfl,rfl,by simp,fun j _ hj=>IC (fun e=>hj (by rw[e]))⟩,bC _⟩;have hne:∀b,b≠D->(w.putObj D<| .deferred none).heap[b]? =w.heap[b]? :=fun b hb=>IC hb
  refine AS (a:={a with defers:={target:= .collected D,args:= #[]}::ds}) hs (hs.below.AN hg fun j e=>by cases e;exact .inl h1) hg.drawn (fun _ _ _ _=>rfl) (by simp) (HV.le.refl _) ?_ ?_ ?_ ?_
  ·intro r o h;rw[hne r (fun e=>by subst e;rw[h3] at h;cases h)];exact hs.sub r o h
  ·intro _ b _ hb;exact⟨hne b (fun e=>by subst e;have:=aq.lo_le (b:=w0);omega),rfl⟩
  ·intro p hp;refine⟨hp,fun b hb=>⟨hne b fun e=>?_,rfl⟩⟩;subst e;obtain⟨_,_,o,ho,V4⟩:=bL.lE (hs.holds p hp) hb;rw[h2] at ho;cases ho;exact V4
  ·have:∀{l:ard Deferred},(∀e∈l,e≠{target:= .collected D,args:= #[]})->Marks w0 w H l->Marks w0 (w.putObj D<| .deferred none) H l:=by
    intro l
    induction l with
    |nil=>exact fun _ _=>trivial
    |cons x l ih=>
     rintro hn ⟨⟨D',e,g1,g2,g3,g4⟩,gr⟩;have hD:D'≠D:=fun eD=>hn x (by simp) (by rw[e,eD])
     exact⟨⟨D',e,g1,by rw[hne D' hD];exact g2,g3,g4⟩,ih (fun y hy=>hn y (by simp[hy])) gr⟩
   rw[hds,vB];exact this h4 hr
def xV(hr:fn.results=rs.toArray)(tmps:ath apU):results fn tmps=(do let vs<-List.toArray<$>rs.mapM (AT tmps);pure (if h:vs.size=1 then vs[0] else .tuple vs)):=by
 unfold results;rw[hr,List.mapM_toArray]
 congr 2
def aeT{c6:ard Ty}(hX:(w0.X,w0.QS,w0.ds,w0.rd)=(UR,false,[],none))(hr:fn.results=rs.toArray)(h:bu P Γ rs c6)(hs:Sat w0 H0 N Γ a w H):
  LeavesInM (hC none) 0 P fn a.tmps (Returns w0.w H0<| .vs c6) a.defers .returning w:=by
 refine sy (congrArg (fun p=>p.2.2.1) hX) (congrArg (fun p=>p.2.2.2) hX) (a:=a) (ds:=a.defers) hs fun w H hs=>?_
 have hX':w0.X=UR:=congrArg Prod.fst hX;have hV:w0.QS=false:=congrArg (fun p=>p.2.1) hX;obtain⟨vs,h1,h2⟩:=h.run hs;have hl:=zf h2;rw[xV hr];simp only[eN,Sem.run_map,h1,eE,ot];refine⟨_,rfl,_,rfl,hs.below.below hX' hV,H,(fun r hr=>hs.I7 hV r hr (by rw[hX'];exact fun h=>h)),hs.sub,?_⟩
 match c6,h2,hl with
 |[],h2,hl=>
  have:vs=[]:=h2;subst this;exact⟨#[],rfl,rfl⟩
 |[τ],h2,hl=>
  obtain⟨v,rest,e,hv,hr⟩:=h2;have:rest=[]:=hr;subst this;subst e;exact hv
 |τ::Fl::l,h2,hl=>
  have: ¬vs.toArray.size=1:=by simp[hl]
  rw[dif_neg this];exact⟨vs.toArray,rfl,by simpa using h2⟩
def Vx{l':ard Ty}(hX:(w0.X,w0.QS,w0.ds,w0.rd)=(UR,false,[],none))(hr:fn.results=[.tmp t].toArray)(h:look Γ t=some (.buf E sz l))(hi:l=l')(hs:Sat w0 H0 N Γ a w H):
  LeavesInM (hC none) 0 P fn a.tmps (Returns w0.w H0<| .fr E sz l') a.defers .returning w:=by
 subst hi;refine sy (congrArg (fun p=>p.2.2.1) hX) (congrArg (fun p=>p.2.2.2) hX) (a:=a) (ds:=a.defers) hs fun w H hs=>?_
 have hX':w0.X=UR:=congrArg Prod.fst hX;have hV:w0.QS=false:=congrArg (fun p=>p.2.1) hX;obtain⟨xs,h1,h2,h3⟩:=hs.holds _<|ay h
 rw[xV hr];refine⟨aV a t,?_,_,rfl,hs.below.below hX' hV,H,(fun r hr=>hs.I7 hV r hr (by rw[hX'];exact fun h=>h)),hs.sub,xs,h1,h2,fun b hb=>⟨?_,(h3 b hb).1⟩⟩
 ·simp[AT,aV]
 ·rcases(h3 b hb).2 with h|h
  ·exact h
  ·rw[hX'] at h;exact h.elim
def fX{c6:ard Ty}(hX:(w0.X,w0.QS,w0.ds,w0.rd)=(UR,false,[],none))(hr:fn.results=rs.toArray)(h:bu P Γ rs c6):lV w0 H0 N (fun a w=>GL P fn w0 H0 (.vs c6) .ret a w) Γ:=fun _ _ _ hs=>aeT hX hr h hs
def wQ{l':ard Ty}(hX:(w0.X,w0.QS,w0.ds,w0.rd)=(UR,false,[],none))(hr:fn.results=[.tmp t].toArray)(h:look Γ t=some (.buf E sz l))(hi:l=l'):lV w0 H0 N (fun a w=>GL P fn w0 H0 (.fr E sz l') .ret a w) Γ:=fun _ _ _ hs=>Vx hX hr h hi hs
def Vh{c6:Yl}{N:Nat}(hf:P.funcs[f]? =some fn)(hb:fn.body=some c)(hN:fn.ntmps=N)(hn:args.length<=N)(hc:dY P f=true)
 (h:∀w0 H0,Goal P (aq.call P w0) H0 N c (GL P fn (aq.call P w0) H0 c6)<|kV 0 args):al P f args c6:=by
 subst hN;exact⟨hc,fun w H _ sub gl gq=>(callsIn_wide (n:=0)).1<|callsIn_of_wp_marks (F:=Fence.wide) hf hb trivial<|h w H _ w H<|Qp sub gl gq hn⟩
def al.congr{Qv:ard Ty}{c6 wY:Yl}(h:al P f args c6)(ha:args=Qv)(hr:c6=wY):al P f Qv wY:=ha▸hr▸h
def al.pub(h:al P f args (.fr E sz l)):al P f args (.vs [I8 l]):=
 ⟨h.can,fun w H vs sub gl gq=>(h.run w H vs sub gl gq).mono fun _ w' ⟨v,e,hb,H',h1,h2,xs,h3,h4,h5⟩=>by
  refine⟨v,e,hb,fun r=>if v.ownBlock=some r then w'.heap[r]? else H' r,?_,?_,?_⟩
  ·intro r hr;have:v.ownBlock≠some r:=fun e=>by have:=(h5 r e).1;omega
   simp[this,h1 r hr]
  ·intro r o ho;by_cases e:v.ownBlock=some r
   ·simpa[e] using ho
   ·simp only[e,if_false] at ho;exact h2 r o ho
  ·have hle:HV.le H' (fun r=>if v.ownBlock=some r then w'.heap[r]? else H' r):=by
    intro r o ho;by_cases e:v.ownBlock=some r
    ·rw[(h5 r e).2] at ho;cases ho
    ·simp[e,ho]
   exact Cl (a:=⟨#[],[]⟩) (B:=aq.call P w) (w:=w') ⟨xs,h3,h4,fun b hb=>⟨(h5 b hb).2,.inl (h5 b hb).1⟩⟩ hle (fun b hb _ o hbo=>by simp[hb,hbo])⟩
end
section
variable[D:DR]
variable{P:Program}{N:Nat}{ops:Array Oper}{Γ az:Ctx}
variable{s:bL}{τ:Ty}
def iN{o:Oper}(h:∀(w0:aq P) (H0:HV) (N:Nat) (a:Act) (w:apT) (H:HV),Sat w0 H0 N Γ a w H->
 ∃v w' H',(execOp a.eval o).run P w= .ok (.value v) w'/\Ext w H w' H'/\s.holds w0 a w' H' v/\∀b,s.owns w' v b->w.heap.size<=b):bI P Γ o s:=by
 intro w0 H0 N a w H hs K Q k;obtain⟨v,w',H',hr,he,hv,hb⟩:=h w0 H0 N a w H hs;unfold Oper.wp;rw[hr,tx];exact k v w' H' he hv hb
def bb{o:Oper}(h:∀(w0:aq P) (H0:HV) (N:Nat) (a:Act) (w:apT) (H:HV),Sat w0 H0 N Γ a w H->
 ∃v,(execOp a.eval o).run P w= .ok (.value v) w/\s.holds w0 a w H v/\s.free=true):bI P Γ o s:=
 iN fun w0 H0 N a w H hs=>by
  obtain⟨v,hr,hv,hb⟩:=h w0 H0 N a w H hs;exact⟨v,w,H,hr,Ext.refl hs.sub,hv,fun b e=>absurd e<|bL.free_spec hb⟩
def Zi{o:Oper}(h:∀(w0:aq P) (H0:HV) (N:Nat) (a:Act) (w:apT) (H:HV),Sat w0 H0 N Γ a w H->
 ∃v,(execOp a.eval o).run P w= .ok (.value v) w/\s.holds w0 a w H v/\∀b,¬s.owns w v b):bI P Γ o s:=
 iN fun w0 H0 N a w H hs=>by
  obtain⟨v,hr,hv,hb⟩:=h w0 H0 N a w H hs;exact⟨v,w,H,hr,Ext.refl hs.sub,hv,fun b e=>absurd e<|hb b⟩
structure Arg(Γ:Ctx)(x:arc)(τ:Ty):Prop where
 ok:∀{P':arb} {w0:aq P'} {H0:HV} {N:Nat} {a:Act} {w:apT} {H:HV},Sat w0 H0 N Γ a w H->τ.ok H (a.eval x)
def Arg.t{t:Nat}{τ:Ty}(h:look Γ t=some (.val τ)):Arg Γ (.tmp t) τ:=⟨fun hs=>hs.holds _<|ay h⟩
def Arg.o{t:Nat}{c:Bool}(h:look Γ t=some (.opt c<| .val τ))(hc:c=true):Arg Γ (.tmp t) τ:=⟨fun hs=>(hs.holds _<|ay h).1 hc⟩
def Arg.int{k:IntKind}{n:Int}:Arg Γ (.const<| .int k n) (TI k n):=⟨fun _=>rfl⟩
def Arg.bool{b:Bool}:Arg Γ (.const<| .bool b) (aY b):=⟨fun _=>rfl⟩
def Arg.agp:Arg Γ (.const<| .slice none 0 0) (I8 []):=⟨fun _=>⟨none,0,rfl,bC _,fun h=>absurd rfl h⟩⟩
def Arg.imp{x:arc}{Fl:Ty}(h:Arg Γ x τ)(hi:∀H v,τ.ok H v->Fl.ok H v):Arg Γ x Fl:=⟨fun hs=>hi _ _<|h.ok hs⟩
end
section
variable[D:DR]
variable{P:Program}{N:Nat}{ops:Array Oper}{Γ az:Ctx}
variable{d:Option Tmp}{ty:TypeId}{pos:String}{af:Array Edge}{g:Option (Nat×Bool)}
variable{T:aq9}{τ:Ty}{sz t off:Nat}{x:arc}{σ:Ty}{l:ard Ty}{b:Bool}{k:IntKind}{i:Int}{len n:Nat}{T':aq9}{ix c:arc}{w:apT}{cs:ath apU}{t' o:Nat}{H:HV}
def HN(h:Arg Γ x τ):bI P Γ ⟨d,.move x,ty,pos,af,g⟩ (.val τ):=
 bb fun _ _ _ a _ _ hs=>⟨a.eval x,rfl,h.ok hs,rfl⟩
def aA(h:Arg Γ x τ):bI P Γ ⟨d,.assign x,ty,pos,af,g⟩ (.val τ):=
 bb fun _ _ _ a _ _ hs=>⟨a.eval x,rfl,h.ok hs,rfl⟩
def vP(h:look Γ t=some (.I6 l)):bI P Γ ⟨d,.move<| .tmp t,ty,pos,af,g⟩ (.I6 l):=
 bb fun _ _ _ a _ _ hs=>⟨aV a t,rfl,hs.holds _<|ay h,rfl⟩
def dW{i:Nat}(h:look Γ t=some (.I6 l))(hi:l[i]? =some τ):bI P Γ ⟨d,.extract (.tmp t) i,ty,pos,af,g⟩ (.val τ):=
 bb fun _ _ _ a w _ hs=>by
  obtain⟨vs,e,ho⟩:=hs.holds _<|ay h
  obtain⟨v,hv,gq⟩:=abq ho hi;have e':a.eval (.tmp t)= .tuple vs:=e;refine⟨v,?_,gq,rfl⟩;have VX:vs[i]? =some v:=by simpa using hv
  simp[execOp,e',Instr.extract,VX]
def LA{y:arc}(hc:Arg Γ c (aY b))(hx:b=true->Arg Γ x τ)(hy:b=false->Arg Γ y τ):bI P Γ ⟨d,.pick c x y,ty,pos,af,g⟩ (.val τ):=
 bb fun _ _ _ a w H hs=>by
  have e:a.eval c= .bool b:=hc.ok hs;refine⟨if b then a.eval x else a.eval y,?_,?_,rfl⟩
  ·simp[execOp,e,asBool]
  ·cases b
   ·simpa[bL.holds] using(hy rfl).ok hs
   ·simpa[bL.holds] using(hx rfl).ok hs
def je(h:b=true):gd b true=true:=h
def jY(h:b=false):gd b false=true:=by subst h;rfl
def D9{c:Bool}(h:b=true)(k:c=true):(b&&c)=true:=by subst h;subst k;rfl
def dh{e x:Bool}(hc:Arg Γ c (aY b))(hx:look Γ t=some (.opt e<| .val<|aY x))(he:b=true->e=true):bI P Γ ⟨d,.pick c (.tmp t)<| .const<| .bool false,ty,pos,af,g⟩ (.val<|aY<|b&&x):=by
 cases b
 ·exact LA hc (fun h=>by cases h)<|fun _=>Arg.bool
 ·exact LA hc (fun _=>by simpa using Arg.o hx (he rfl)) (fun h=>by cases h)
def fO{e x:Bool}(hc:Arg Γ c (aY b))(hx:look Γ t=some (.opt e<| .val<|aY x))(he:b=false->e=true):bI P Γ ⟨d,.pick c (.const<| .bool true)<| .tmp t,ty,pos,af,g⟩ (.val<|aY (b||x)):=by
 cases b
 ·exact LA hc (fun h=>by cases h) (fun _=>by simpa using Arg.o hx (he rfl))
 ·exact LA hc (fun _=>Arg.bool) (fun h=>by cases h)
def apR:TypeDesc->Bool
 | .struct _| .array _ _=>true
 |_=>false
def dR(P:arb)(T:aq9)(n:Nat)(agg:Bool):Bool:=
 match P.info? T,P.underlying T with
 |some i,some d=>Nat.beq i.size n&&(apR d==agg)&&(agg||Nat.beq n 1)
 |_,_=>false
def aO{d:TypeDesc}(h:P.underlying T=some d)(w:apT):(underlying T).run P w= .ok d w:=by
 simp[underlying,program,Sem.run,h]
def T5{agg:Bool}(h:dR P T n agg=true):
  (∀w,(isAgg T).run P w= .ok agg w)/\(∀w,(Go.sizeOf T).run P w= .ok n w)/\(agg=false->n=1):=by
 unfold dR at h;split at h
 ·rename_i i dd hi hu;simp only[bV,mY,xw] at h;obtain⟨⟨h1,h2⟩,h3⟩:=h;have h1:=fB h1;refine⟨fun w=>?_,fun w=>?_,fun hf=>?_⟩
  ·simp only[isAgg,eN,aO hu,eE];subst h2;cases dd<;>rfl
  ·simp[Go.sizeOf,typeInfo,program,Sem.run,hi];simp[h1]
  ·rcases h3 with h3|h3
   ·rw[hf] at h3;cases h3
   ·exact fB h3
 ·cases h
def lD{agg:Bool}(h:dR P T n agg=true){b:Nat}{E:aq9}{fr:Nat×Nat}(hb:w.heap[b]? =some (.cells cs E fr))(hl:off+n<=cs.size):
  (loadVar T ⟨b,off,none⟩).run P w= .ok (JF agg ((cs.toList.drop off).take n).toArray) w:=by
 obtain⟨h1,h2,h3⟩:=T5 h;have XU:∀j v,((cs.toList.drop off).take n)[j]? =some v->w.cell? ((⟨b,off,none⟩:Addr).add j)=some v:=by
  intro j v hj;have Wd:(⟨b,off,none⟩:Addr).add j=⟨b,off+j,none⟩:=by unfold Addr.add;split<;>simp_all
  rw[Wd];rw[Ao] at hj;split at hj
  ·simp at hj;simp[World.cell?,hb,hj]
  ·cases hj
 have hlen:((cs.toList.drop off).take n).length=n:=by simp;omega
 cases agg
 ·have hn:=h3 rfl;subst hn;have hlt:off<cs.size:=by omega
  have hc:=XU 0 cs[off] (by simp[hlt]);have Wd:(⟨b,off,none⟩:Addr).add 0=⟨b,off,none⟩:=rfl;rw[Wd] at hc;simp only[loadVar,eN,h1,eE];simp[load,Sem.run,hc,JF,hlt]
 ·have:=run_loadCells_list (P:=P) w ⟨b,off,none⟩ _ XU;rw[hlen] at this;simp only[loadVar,eN,h1,h2,eE,if_true,this]
  rfl
def Jc{x:apU}(hn:x.cells.size=n):((x.cells.toList.drop 0).take n).toArray=x.cells:=by
 rw[xA,eJ (by simp;omega)]
def sB{agg:Bool}(h:dR P T n agg=true)(w:apT)(b:Nat)(x:apU)(E:aq9)(hb:w.heap[b]? =some (.cells x.cells E (0,0)))(hx:Shape n agg x):(loadVar T ⟨b,0,none⟩).run P w= .ok x w:=by
 rw[lD h hb (by rw[hx.size];omega),Jc hx.size,<-hx.eq]
def aP(τ:Ty)(off:Nat)(σ:Ty):Prop:=∀(H:HV) (v:apU),τ.ok H v->off+σ.n<=v.cells.size/\σ.ok H (JF σ.agg ((v.cells.toList.drop off).take σ.n).toArray)
def aP.agg{i:Nat}(h:l[i]? =some σ)(ho:cw (l.take i)=off):aP (fJ l) off σ:=by
 rintro H v ⟨cs,e,ok⟩;subst e;subst ho;have:=nL ok h;simpa[Value.cells] using this
def aP.whole:aP τ 0 τ:=fun _ _ h=>by
 have hs:=τ.shape h;refine⟨by rw[hs.size];omega,?_⟩;rw[Jc hs.size,<-hs.eq];exact h
def aP.imp{σ':Ty}(h:aP τ off σ)(hn:σ'.n=σ.n)(ha:σ'.agg=σ.agg)(hi:∀H v,σ.ok H v->σ'.ok H v):aP τ off σ':=fun H v hv=>by
 obtain⟨h1,h2⟩:=h H v hv;rw[hn,ha];exact⟨h1,hi _ _ h2⟩
def ri:(JF true cs).cells=cs:=rfl
def aP.trans{ρ:Ty}{o1 o2:Nat}(h:aP τ o1 σ)(ha:σ.agg=true)(k:aP σ o2 ρ):aP τ (o1+o2) ρ:=fun H v hv=>by
 obtain⟨h1,h2⟩:=h H v hv;obtain⟨k1,k2⟩:=k H _ h2;rw[ha] at k1 k2;simp only[ri] at k1 k2;have hlen:(List.take σ.n<|List.drop o1 v.cells.toList).toArray.size=σ.n:=by simp;omega
 rw[hlen] at k1;refine⟨by omega,?_⟩;have:List.take ρ.n (List.drop o2<|List.take σ.n<|List.drop o1 v.cells.toList)=List.take ρ.n (List.drop (o1+o2) v.cells.toList):=by
  rw[tv,uM,iF]
  congr 1
  omega
 simpa[this] using k2
def ae(h:look Γ t=some (.own T' τ))(hT:dR P T τ.n τ.agg=true):bI P Γ ⟨d,.load T<| .tmp t,ty,pos,af,g⟩ (.val τ):=
 bb fun _ _ _ a w _ hs=>by
  obtain⟨b,x,e,hb,hx,_,_⟩:=hs.holds _<|ay h
  have e':a.eval (.tmp t)= .pointer (some ⟨b,0,none⟩):=e;refine⟨x,?_,hx,rfl⟩;simp[execOp,e',Instr.loadAt,Instr.sureAddr,sB hT w b x T' hb<|τ.shape hx]
def b9(h:look Γ t=some (.ptr t' off))(h':look Γ t'=some (.own T' τ))(hp:aP τ off σ)(hT:dR P T σ.n σ.agg=true):bI P Γ ⟨d,.load T<| .tmp t,ty,pos,af,g⟩ (.val σ):=
 bb fun _ _ _ a w _ hs=>by
  obtain⟨b,x,e,hb,hx,_,_⟩:=hs.holds _<|ay h'
  obtain⟨b',e1,e2⟩:=hs.holds _<|ay h
  simp only at e e1;rw[e] at e1;cases e1;have e':a.eval (.tmp t)= .pointer (some ⟨b,off,none⟩):=e2;obtain⟨h1,h2⟩:=hp _ _ hx;refine⟨_,?_,h2,rfl⟩;simp[execOp,e',Instr.loadAt,Instr.sureAddr,lD hT hb h1]
def aU(h:Arg Γ x (nm τ))(hT:dR P T τ.n τ.agg=true):bI P Γ ⟨d,.load T x,ty,pos,af,g⟩ (.val τ):=
 bb fun _ _ _ a w _ hs=>by
  obtain⟨b,off,cs,E,fr,e,hb,hl,hx⟩:=h.ok hs;refine⟨_,?_,hx,rfl⟩;simp[execOp,e,Instr.loadAt,Instr.sureAddr,lD hT (hs.sub _ _ hb) hl]
def jf(P:arb)(T:aq9)(k off:Nat):Bool:=
 match P.underlying T with
 |some (.struct fs)=>match fs[k]? with
  |some f=>Nat.beq f.offset off&&(match P.info? f.type with|some i=> !Nat.beq i.size 0|none=>false)
  |none=>false
 |_=>false
def addr_add(b off n:Nat):(⟨b,off,none⟩:Addr).add n=⟨b,off+n,none⟩:=by unfold Addr.add;split<;>simp_all
def za{k:Nat}(h:jf P T k off=true)(b o:Nat)(w:apT):(Instr.fieldAt T (.pointer<|some ⟨b,o,none⟩) k).run P w= .ok (.pointer<|some ⟨b,o+off,none⟩) w:=by
 unfold jf at h;split at h
 ·rename_i fs hu;split at h
  ·rename_i f hf;simp only[bV] at h;obtain⟨h1,h2⟩:=h;have h1:=fB h1;split at h2
   ·rename_i i hi;have hne:i.size≠0:=by
     intro e;rw[e] at h2;simp at h2
    simp[Instr.fieldAt,aO hu,hf,Instr.sureAddr,fieldPlace,Go.sizeOf,typeInfo,program,Sem.run,hi,hne,addr_add,h1]
   ·cases h2
  ·cases h
 ·cases h
def a8{k:Nat}(h:look Γ t=some (.own T' τ))(hf:jf P T k off=true):bI P Γ ⟨d,.fieldAddr T (.tmp t) k,ty,pos,af,g⟩ (.ptr t off):=
 bb fun _ _ _ a w _ hs=>by
  obtain⟨b,x,e,hb,hx,_,_⟩:=hs.holds _<|ay h
  have e':a.eval (.tmp t)= .pointer (some ⟨b,0,none⟩):=e;exact⟨.pointer<|some ⟨b,0+off,none⟩,by simp[execOp,e',za hf],⟨b,e,by simp⟩,rfl⟩
def jr{k:Nat}(h:look Γ t=some (.ptr t' o))(hf:jf P T k off=true):bI P Γ ⟨d,.fieldAddr T (.tmp t) k,ty,pos,af,g⟩ (.ptr t'<|o+off):=
 bb fun _ _ _ a w _ hs=>by
  obtain⟨b,e1,e2⟩:=hs.holds _<|ay h
  have e':a.eval (.tmp t)= .pointer (some ⟨b,o,none⟩):=e2;exact⟨.pointer<|some ⟨b,o+off,none⟩,by simp[execOp,e',za hf],⟨b,e1,rfl⟩,rfl⟩
def Tm(hp:aP τ o σ){b:Nat}{E:aq9}{fr:Nat×Nat}(hb:H b=some (.cells cs E fr))(hl:off+τ.n<=cs.size)(ha:τ.agg=true)(hx:τ.ok H (JF τ.agg ((cs.toList.drop off).take τ.n).toArray)):
  (nm σ).ok H (.pointer<|some ⟨b,off+o,none⟩):=by
 rw[ha] at hx;obtain⟨h1,h2⟩:=hp _ _ hx;simp only[ri] at h1 h2;have hlen:(List.take τ.n<|List.drop off cs.toList).toArray.size=τ.n:=by simp;omega
 rw[hlen] at h1;refine⟨b,off+o,cs,E,fr,rfl,hb,by omega,?_⟩;have:List.take σ.n (List.drop o<|List.take τ.n<|List.drop off cs.toList)=List.take σ.n (List.drop (off+o) cs.toList):=by
  rw[tv,uM,iF]
  congr 1
  omega
 simpa[this] using h2
def eG{k:Nat}(h:Arg Γ x (nm τ))(ha:τ.agg=true)(hp:aP τ off σ)(hf:jf P T k off=true):bI P Γ ⟨d,.fieldAddr T x k,ty,pos,af,g⟩ (.val<|nm σ):=
 bb fun _ _ _ a w _ hs=>by
  obtain⟨b,o,cs,E,fr,e,hb,hl,hx⟩:=h.ok hs;exact⟨.pointer<|some ⟨b,o+off,none⟩,by simp[execOp,e,za hf],Tm hp hb hl ha hx,rfl⟩
def yP(P:arb)(T:aq9)(len sz:Nat):Bool:=
 match P.underlying T with
 |some (.array n e)=>Nat.beq n len&&(match P.info? e with|some i=>Nat.beq i.size sz|none=>false)
 |_=>false
def Ay(P:arb)(T:aq9)(sz:Nat):Bool:=
 match P.underlying T with
 |some (.slice e)=>(match P.info? e with|some i=>Nat.beq i.size sz|none=>false)
 |_=>false
def OC(h:yP P T len sz=true):∃e i,P.underlying T=some (.array len e)/\P.info? e=some i/\i.size=sz:=by
 unfold yP at h;split at h
 ·rename_i n e hu;simp only[bV] at h;obtain⟨h1,h2⟩:=h;have h1:=fB h1;subst h1;split at h2
  ·rename_i i hi;exact⟨e,i,hu,hi,fB h2⟩
  ·cases h2
 ·cases h
def Ls(h:Ay P T sz=true):∃e i,P.underlying T=some (.slice e)/\P.info? e=some i/\i.size=sz:=by
 unfold Ay at h;split at h
 ·rename_i e hu;split at h
  ·rename_i i hi;exact⟨e,i,hu,hi,fB h⟩
  ·cases h
 ·cases h
def wu(h:yP P T len sz=true)(b o:Nat)(h0:0<=i)(h1:i<len)(w:apT):
  (Instr.indexAt T (.pointer<|some ⟨b,o,none⟩)<| .int k i).run P w= .ok (.pointer<|some ⟨b,o+i.toNat*sz,none⟩) w:=by
 obtain⟨e,ii,hu,hi,hs⟩:=OC h;simp[Instr.indexAt,asIntOf,aO hu,Instr.sureAddr,h0,h1,Go.sizeOf,typeInfo,program,Sem.run,hi,hs,addr_add]
def xU(h:Ay P T sz=true)(b o len cap:Nat)(h0:0<=i)(h1:i<len)(w:apT):
  (Instr.indexAt T (.slice (some ⟨b,o,none⟩) len cap)<| .int k i).run P w= .ok (.pointer<|some ⟨b,o+i.toNat*sz,none⟩) w:=by
 obtain⟨e,ii,hu,hi,hs⟩:=Ls h;simp[Instr.indexAt,asIntOf,aO hu,h0,h1,Go.sizeOf,typeInfo,program,Sem.run,hi,hs,addr_add]
def HO(h:look Γ t=some (.own T' τ))(hT:yP P T len sz=true)(hi:Arg Γ ix (TI k i))(h0:0<=i)(h1:i<len):
  bI P Γ ⟨d,.indexAddr T (.tmp t) ix,ty,pos,af,g⟩ (.ptr t<|i.toNat*sz):=
 bb fun _ _ _ a w _ hs=>by
  obtain⟨b,x,e,hb,hx,_,_⟩:=hs.holds _<|ay h
  have e':a.eval (.tmp t)= .pointer (some ⟨b,0,none⟩):=e;have ei:a.eval ix= .int k i:=hi.ok hs;exact⟨.pointer<|some ⟨b,0+i.toNat*sz,none⟩,by simp[execOp,e',ei,wu hT b 0 h0 h1],⟨b,e,by simp⟩,rfl⟩
def cg(h:look Γ t=some (.ptr t' o))(hT:yP P T len sz=true)(hi:Arg Γ ix (TI k i))(h0:0<=i)(h1:i<len):
  bI P Γ ⟨d,.indexAddr T (.tmp t) ix,ty,pos,af,g⟩ (.ptr t'<|o+i.toNat*sz):=
 bb fun _ _ _ a w _ hs=>by
  obtain⟨b,e1,e2⟩:=hs.holds _<|ay h
  have e':a.eval (.tmp t)= .pointer (some ⟨b,o,none⟩):=e2;have ei:a.eval ix= .int k i:=hi.ok hs;exact⟨.pointer<|some ⟨b,o+i.toNat*sz,none⟩,by simp[execOp,e',ei,wu hT b o h0 h1],⟨b,e1,rfl⟩,rfl⟩
def Rk(h:Arg Γ x (nm τ))(ha:τ.agg=true)(hT:yP P T len sz=true)(hi:Arg Γ ix (TI k i))(h0:0<=i)(h1:i<len)(hp:aP τ (i.toNat*sz) σ):
  bI P Γ ⟨d,.indexAddr T x ix,ty,pos,af,g⟩ (.val<|nm σ):=
 bb fun _ _ _ a w _ hs=>by
  obtain⟨b,o,cs,E,fr,e,hb,hl,hx⟩:=h.ok hs;have ei:a.eval ix= .int k i:=hi.ok hs;exact⟨.pointer<|some ⟨b,o+i.toNat*sz,none⟩,by simp[execOp,e,ei,wu hT b o h0 h1],Tm hp hb hl ha hx,rfl⟩
def GK(sz:Nat)(l:ard Ty):Prop:=∀τ∈l,τ.n=sz
def hZ{sz:Nat}:∀{l:ard Ty},GK sz l->cw l=l.length*sz
 |[],_=>by simp
 |τ::l,h=>by
  have h1:=h τ (by simp);have h2:=hZ (l:=l) (fun x hx=>h x (by simp[hx]));simp[h1,h2,om];omega
def GK.take{sz:Nat}{l:ard Ty}(h:GK sz l)(i:Nat):GK sz (l.take i):=fun τ ht=>h τ<|tC ht
def lR{α:Type _}{f:α->Ty}(h:∀x,(f x).n=sz)(l:ard α):GK sz (l.map f):=fun τ ht=>by
 obtain⟨x,_,e⟩:=mF.1 ht;exact e▸h x
def Tw(h:Arg Γ x (I8 l))(hT:Ay P T sz=true)(hu:GK sz l)(hi:Arg Γ ix (TI k i))(h0:0<=i)(hl:l[i.toNat]? =some σ):
  bI P Γ ⟨d,.indexAddr T x ix,ty,pos,af,g⟩ (.val<|nm σ):=
 bb fun _ _ _ a w _ hs=>by
  obtain⟨ad,cap,e,_,hx⟩:=h.ok hs;have hlt:=(iG.1 hl).1;obtain⟨b,o,cs,E,fr,e1,hb,hsz,ho⟩:=hx (fun e=>by rw[e] at hlt;simp at hlt);subst e1;have ei:a.eval ix= .int k i:=hi.ok hs;have h1:i<l.length:=by omega
  obtain⟨p1,p2⟩:=nL ho hl;have hc:cw (l.take i.toNat)=i.toNat*sz:=by
   rw[hZ<|hu.take _,List.length_take,fA (by omega)]
  rw[hc] at p1 p2;have hlen:(List.take (cw l)<|List.drop o cs.toList).length=cw l:=by simp;omega
  rw[hlen] at p1;refine⟨.pointer<|some ⟨b,o+i.toNat*sz,none⟩,by simp[execOp,e,ei,xU hT b o l.length cap h0 h1],⟨b,_,cs,E,fr,rfl,hb,by omega,?_⟩,rfl⟩;have:List.take σ.n (List.drop (i.toNat*sz)<|List.take (cw l)<|List.drop o cs.toList)=List.take σ.n (List.drop (o+i.toNat*sz) cs.toList):=by
   rw[tv,uM,iF]
   congr 1
   omega
  rw[this] at p2;exact p2
inductive aJ(Γ:Ctx):ard arc->ard Ty->Prop where
 |nil:aJ Γ [] []
 |cons {x:arc} {τ:Ty} {xs:ard arc} {l:ard Ty} (h:Arg Γ x τ) (r:aJ Γ xs l):aJ Γ (x::xs) (τ::l)
def aJ.ok{xs:ard arc}{l:ard Ty}(h:aJ Γ xs l){w0:aq P}{H0:HV}{N:Nat}{a:Act}{w:apT}{H:HV}(hs:Sat w0 H0 N Γ a w H):BF H l (xs.map a.eval):=by
 induction h with
 |nil=>rfl
 |cons h _ ih=>exact⟨_,_,rfl,h.ok hs,ih⟩
def sW:ard Ty->bL
 |[τ]=> .val τ
 |l=> .I6 l
def aeH:Yl->bL
 | .vs l=>sW l
 | .fr E sz l=> .buf E sz l
def rL{c6:ard Ty}{v:apU}{B:aq P}{a:Act}(h:vO H c6 v):(sW c6).holds B a w H v:=by
 match c6,h with
 |[],h=>exact h
 |[_],h=>exact h
 |_::_::_,h=>exact h
def uy{c6:ard Ty}:(sW c6).free=true:=by
 match c6 with
 |[]=>rfl
 |[_]=>rfl
 |_::_::_=>rfl
def jo{f:FuncId}(h:dY P f=true)(args:ath apU)(w:apT):(callFunc f args).run P w= .ok (.enter f args) w:=by
 unfold dY at h;split at h
 ·rename_i fn hf;simp only[bV,gY] at h;have hb:fn.body.isNone=false:=by cases hx:fn.body<;>simp[hx] at h⊢
  have h1:fn.name≠ "runtime.NumGoroutine" :=by simpa using h.2
  have h2:fn.body≠none:=by intro e;rw[e] at hb;cases hb
  simp[callFunc,program,Sem.run,hf,h1,h2]
 ·cases h
def fL{f:FuncId}{xs:ard arc}{r9:ath aq9}{args:ard Ty}{c6:Yl}(hf:al P f args c6)(ha:aJ Γ xs args):
  bI P Γ ⟨d,.call ⟨.value<| .func f,xs.toArray,r9⟩,ty,pos,af,g⟩ (aeH c6):=by
 intro w0 H0 N a w H hs K Q k;unfold Oper.wp;have e:execOp a.eval ⟨d,.call ⟨.value<| .func f,xs.toArray,r9⟩,ty,pos,af,g⟩=callFunc f (#[]++xs.toArray.map a.eval++ #[]):=rfl;rw[e,jo hf.can,BZ];have e2:(#[]++xs.toArray.map a.eval++ #[])=(xs.map a.eval).toArray:=by simp
 rw[e2];refine(hf.run w H _ hs.sub hs.gl<|ha.ok hs).mono ?_;rintro e w' ⟨v,rfl,hb,H',h1,h2,h3⟩;have he:Ext w H w' H':=⟨hb,fun r o h=>by rw[h1 r<|wU hs.sub h];exact h,h1,h2⟩;cases c6 with
 |vs l=>exact k v w' H' he (rL h3)<|fun b e=>absurd e<|bL.free_spec (s:=sW l) uy
 |fr E sz l=>
  obtain⟨xs,k1,k2,k3⟩:=h3;exact k v w' H' he ⟨xs,k1,k2,fun b hb=>⟨(k3 b hb).2,.inl<|fc hs.below.size (k3 b hb).1⟩⟩<|fun b e=>(k3 b e).1
def z7{i:TypeInfo}{z:apU}(hi:P.info? T=some i)(hz:i.zero=some z)(w:apT):(zeroValue T).run P w= .ok z w:=by
 simp[zeroValue,typeInfo,program,Sem.run,hi,hz]
structure bJ(P:arb)(T:aq9)(τ:Ty):Prop where
 run:∀w,∃z,(zeroValue T).run P w= .ok z w/\∀H,τ.ok H z
def a7(z:apU)(h:(P.info? T).bind (·.zero)=some z)(hz:∀H,τ.ok H z):bJ P T τ:=⟨fun w=>by
 cases hi:P.info? T with
 |none=>rw[hi] at h;cases h
 |some i=>rw[hi] at h;exact⟨z,z7 hi h w,hz⟩⟩
def gW(h:bJ P T τ):bI P Γ ⟨d,.alloc T,ty,pos,af,g⟩ (.own T τ):=
 iN fun w0 _ _ a w H hs=>by
  obtain⟨z,hr,hz⟩:=h.run w;refine⟨.pointer<|some ⟨w.heap.size,0,none⟩,w.alloc<| .cells z.cells T,H,?_,Ext.alloc hs.sub _,?_,?_⟩
  ·simp[execOp,Instr.alloc,hr,newVar,newRow]
  ·refine⟨w.heap.size,z,rfl,rO w _,hz H,?_,.inl hs.below.size⟩;cases hh:H w.heap.size with
   |none=>rfl
   |some o=>have:=wU hs.sub hh;omega
  ·rintro b ⟨ad,e,hb⟩;cases e;simp at hb;omega
def ahF(h:Arg Γ x τ):bI P Γ ⟨d,.box T x,ty,pos,af,g⟩ (.own T τ):=
 iN fun w0 _ _ a w H hs=>by
  refine⟨.pointer<|some ⟨w.heap.size,0,none⟩,w.alloc<| .cells (a.eval x).cells T,H,?_,Ext.alloc hs.sub _,?_,?_⟩
  ·simp[execOp,Instr.box,newVar,newRow]
  ·refine⟨w.heap.size,a.eval x,rfl,rO w _,h.ok hs,?_,.inl hs.below.size⟩;cases hh:H w.heap.size with
   |none=>rfl
   |some o=>have:=wU hs.sub hh;omega
  ·rintro b ⟨ad,e,hb⟩;cases e;simp at hb;omega
end
section
variable[D:DR]
variable{P:Program}{N:Nat}{ops:Array Oper}{Γ az:Ctx}{d:Option Tmp}{ty:TypeId}{pos:String}{af:Array Edge}{g:Option (Nat×Bool)}
variable{T T':aq9}{x y:arc}{σ:Ty}{k:IntKind}{m n:Int}{t:Nat}{τ:Ty}{w:apT}{off:Nat}{w0:aq P}{H0:HV}{a:Act}{H:HV}{w':apT}{row:atg Nat}{s:bL}{v:apU}{ρ:Ty}{p:Nat}{Fl:Ty}
def Ol{d:Nat}{Γ:Ctx}{p:Nat×bL}(h:p∈del d Γ):p.1≠d/\d∉p.2.bH:=wg pF p h
def Nf(hs:Sat w0 H0 N Γ a w H)(hg:zM w w' row)(tN:∀b,row=some b->w0.mg b/\H b=none/\∀l,w.heap[b]? ≠some (.deferred l))
 (bO:∀p∈az,p∈Γ/\∀b,p.2.owns w (aV a p.1) b->row≠some b):Sat w0 H0 N az a w' H:=by
 have kF:∀b,b<w.heap.size->row≠some b->w'.heap[b]? =w.heap[b]? :=fun b hb hn=>hg.block b hb<|fun e=>hn e.symm
 refine AS (ds:=a.defers) hs (hs.below.AN hg<|fun k hk=>(tN k hk).1) hg.drawn (fun _ _ _ _=>rfl) hg.size (HV.le.refl _) ?_ ?_ ?_ ?_
 ·intro r o h;rw[kF r (wU hs.sub h) (fun e=>by have:=(tN r e).2.1;rw[this] at h;cases h)];exact hs.sub r o h
 ·intro _ b hb FU;exact⟨kF b hb (fun e=>by have:=aq.xp (tN b e).1;omega),rfl⟩
 ·intro p hp;exact⟨(bO p hp).1,fun b hb=>⟨kF b (bL.lE (hs.holds p (bO p hp).1) hb).1<|(bO p hp).2 b hb,rfl⟩⟩
 ·exact hs.nd.kept fun D _ h1 h2=>⟨by rw[kF D (lt_of_heap h1)<|fun e=>(tN D e).2.2 _ h1];exact h1,h2⟩
def o9(h:Sat w0 H0 N Γ a w H){d:Nat}(hd:d<N)(hf:mK d Γ=true)(hl:d∉s.bH)
 (hs:s.holds w0 a w H v)(hfr:∀b,s.owns w v b->∀q∈Γ,¬q.2.owns w (aV a q.1) b):Sat w0 H0 N ((d,s)::Γ) (a.put (some d) v) w H:=Kj h hd hf hl hs hfr
def iK{b:Nat}{s':bL}(hs:Sat w0 H0 N Γ a w H)(ht:(t,s)∈Γ)(hg:zM w w' (some b))(hb:w0.mg b)(hob:s.owns w (aV a t) b)
 (oV:s'.holds w0 a w' H (aV a t))(V4:∀c,s'.owns w' (aV a t) c->s.owns w (aV a t) c\/w.heap.size<=c):Sat w0 H0 N ((t,s')::bN t Γ) a w' H:=by
 obtain⟨h1,h2,o,h3,h4⟩:=bL.lE (hs.holds _ ht) hob;have other:∀q∈bN t Γ,∀c,s.owns w (aV a t) c-> ¬q.2.owns w (aV a q.1) c:=fun q hq c hc=>hs.sep _ ht q (bG q hq).1 (fun e=>(bG q hq).2 e.symm) c hc
 have kO:Sat w0 H0 N (bN t Γ) a w' H:=by
  refine Nf hs hg (fun c hc=>by cases hc;exact⟨hb,h2,fun l e=>by rw[h3] at e;cases e;exact h4⟩)<|fun q hq=>⟨(bG q hq).1,fun c hc e=>?_⟩
  cases e;exact other q hq b hob hc
 have back:∀q∈bN t Γ,∀c,q.2.owns w' (aV a q.1) c->q.2.owns w (aV a q.1) c:=fun q hq c hc=>by
  refine((bL.A8 (w':=w') (H':=H) (hs.holds q (bG q hq).1) ?_).2 c).1 hc;refine⟨hg.size,hg.os,hg.tape,hg.output,hg.drawn,HV.le.refl _,?_,fun _ _ _=>rfl,kO.sub⟩;intro c ZO Qn;refine hg.block c ZO<|fun e=>?_
  cases e;rcases Qn with Qn|Qn
  ·have:=aq.xp hb;omega
  ·exact other q hq b hob Qn
 refine⟨kO.nd,kO.sz,kO.below,kO.I7,kO.sub,?_,?_,kO.gl⟩
 ·intro q hq;rcases bM.1 hq with eq|hq
  ·subst eq;exact oV
  ·exact kO.holds q hq
 ·have key:∀q∈bN t Γ,∀c,s'.owns w' (aV a t) c-> ¬q.2.owns w' (aV a q.1) c:=fun q hq c hc zG=>by
   rcases V4 c hc with h|h
   ·exact other q hq c h<|back q hq c zG
   ·have:=(bL.lE (hs.holds q (bG q hq).1)<|back q hq c zG).1;omega
  intro q hq r hr hne c hc zG;rcases bM.1 hq with eq|hq<;>rcases bM.1 hr with er|hr
  ·subst eq;subst er;exact hne rfl
  ·subst eq;exact key r hr c hc zG
  ·subst er;exact key q hq c zG hc
  ·exact kO.sep q hq r hr hne c hc zG
def P4(hs:Sat w0 H0 N Γ a w H)(hg:zM w w' row)(tN:∀b,row=some b->w0.mg b/\H b=none)
 {q:Nat×bL}(hq:q∈Γ)(hn:∀b,q.2.owns w (aV a q.1) b->row≠some b)(c:Nat):q.2.owns w' (aV a q.1) c↔q.2.owns w (aV a q.1) c:=by
 refine(bL.A8 (w':=w') (H':=H) (hs.holds q hq) ?_).2 c;refine⟨hg.size,hg.os,hg.tape,hg.output,hg.drawn,HV.le.refl _,?_,fun _ _ _=>rfl,?_⟩
 ·intro c ZO Qn;refine hg.block c ZO<|fun e=>?_
  rcases Qn with Qn|Qn
  ·have:=aq.xp (tN c e.symm).1;omega
  ·exact hn c Qn e.symm
 ·intro r o h;rw[hg.block r (wU hs.sub h) (fun e=>by have:=(tN r e.symm).2;rw[this] at h;cases h)];exact hs.sub r o h
def AR{dd:Nat}{s':bL}(hs:Sat w0 H0 N Γ a w H)(ht:(t,s)∈Γ)(hg:zM w w' row)
 (tN:∀b,row=some b->s.owns w (aV a t) b/\w0.mg b)(na:dd<N)(hl:dd∉s'.bH)(hv:s'.holds w0 a w' H v)(ho:∀b,s'.owns w' v b->s.owns w (aV a t) b\/w.heap.size<=b):
  Sat w0 H0 N ((dd,s')::del dd (bN t Γ)) (a.put (some dd) v) w' H:=by
 have low:∀b,s.owns w (aV a t) b->b<w.heap.size/\H b=none/\∃o,w.heap[b]? =some o/\Ns o:=fun b h=>bL.lE (hs.holds _ ht) h
 have sub:∀q∈del dd (bN t Γ),q∈Γ/\∀b,s.owns w (aV a t) b-> ¬q.2.owns w (aV a q.1) b:=fun q hq=>by
  have h1:=bG q<|kB q hq
  exact⟨h1.1,fun b hb=>hs.sep _ ht q h1.1 (fun e=>h1.2 e.symm) b hb⟩
 have agA:∀b,row=some b->w0.mg b/\H b=none:=fun b h=>⟨(tN b h).2,(low b (tN b h).1).2.1⟩
 have hn:∀q∈del dd (bN t Γ),∀b,q.2.owns w (aV a q.1) b->row≠some b:=fun q hq b hb e=>(sub q hq).2 b (tN b e).1 hb
 have kO:Sat w0 H0 N (del dd<|bN t Γ) a w' H:=by
  refine Nf hs hg (fun b h=>⟨(tN b h).2,(agA b h).2,fun l e=>?_⟩)<|fun q hq=>⟨(sub q hq).1,hn q hq⟩
  obtain⟨_,_,o,h3,h4⟩:=low b (tN b h).1;rw[h3] at e;cases e;exact h4
 refine o9 kO na pF hl hv fun b hb q hq Uc=>?_
 have Uc:=(P4 hs hg agA (sub q hq).1 (hn q hq) b).1 Uc;rcases ho b hb with h|h
 ·exact(sub q hq).2 b h Uc
 ·have:=(bL.lE (hs.holds q (sub q hq).1) Uc).1;omega
def Cg(w:apT):zM w w none:=⟨⟨rfl,rfl,rfl,bC _,fun _ _ _=>rfl⟩,bC _⟩
def il(τ:Ty)(off:Nat)(σ Fl:Ty):Prop:=∀(H:HV) (v x:apU),τ.ok H v->σ.ok H x->off+σ.n<=v.cells.size/\
 ∃x',Fl.ok H x'/\x'.cells=(v.cells.toList.take off++x.cells.toList++v.cells.toList.drop (off+σ.n)).toArray
def il.whole(h:σ.n=τ.n):il τ 0 σ σ:=fun H v x hv hx=>by
 have h1:=(τ.shape hv).size;refine⟨by omega,x,hx,?_⟩;rw[wK (by simp;omega)];simp
def il.agg{l:ard Ty}{i off:Nat}{σ ρ:Ty}(h:l[i]? =some ρ)(hn:σ.n=ρ.n)(ho:cw (l.take i)=off):il (fJ l) off σ (fJ<|l.set i σ):=by
 rintro H v x ⟨cs,e,ok⟩ hx;subst e;subst ho;obtain⟨p1,_⟩:=nL ok h;have hp:=BH ok h hn hx;rw[<-hn] at p1 hp;simp only[gi] at p1;exact⟨p1,.agg _,⟨_,rfl,by simpa[Value.cells] using hp⟩,rfl⟩
def nv{n:Nat}(h:Shape n false v):v.oneCell'=true/\n=1/\v.cells= #[v]:=by
 have h1:=h.size;have h2:=h.cell;have h3:=h.eq;cases v with
 |agg c=>
  exfalso;simp only[Value.cells,JF] at h2 h3;by_cases hc:0<c.size
  ·simp[hc] at h3;have:=h2 c[0] (by simp);rw[<-h3] at this;simp[Value.oneCell'] at this
  ·simp[DO,Array.getElem?_eq_none<|Nat.le_of_not_lt hc,undef] at h3
 |tuple c=>have:=h2 (.tuple c) (by simp[Value.cells]);simp[Value.oneCell'] at this
 |_=>exact⟨rfl,by simpa[Value.cells] using h1.symm,rfl⟩
def S7{n:Nat}{agg:Bool}{S9:ard apU}(h:Shape n agg (JF agg S9.toArray))(hl:S9.length=n):(JF agg S9.toArray).cells=S9.toArray:=by
 cases agg
 ·obtain⟨_,h2,h3⟩:=nv h
  match S9,hl.trans h2 with
  |[y],_=>simpa[JF] using h3
 ·rfl
def il.trans{l:ard Ty}{i o1 o2:Nat}{ρ':Ty}(h:l[i]? =some ρ)(ho:cw (l.take i)=o1)(k:il ρ o2 σ ρ')(hn:ρ'.n=ρ.n)(e:o1+o2=off):il (fJ l) off σ (fJ<|l.set i ρ'):=by
 rintro H v x ⟨cs,e',ok⟩ hx;subst e';subst ho;subst e;obtain⟨p1,p2⟩:=nL ok h;have hlen:cs.toList.length=cs.size:=by simp
 rw[hlen] at p1
 generalize Gn:(List.take ρ.n<|List.drop (cw<|List.take i l) cs.toList)=S9 at p2
 have XI:S9.length=ρ.n:=by rw[<-Gn];simp;omega
 have Wa:=S7 (ρ.shape p2) XI;obtain⟨k1,x',k2,k3⟩:=k H _ x p2 hx;rw[Wa] at k1 k3;simp only[Iy,XI] at k1;refine⟨by simp only[Value.cells];omega,.agg _,⟨_,rfl,?_⟩,rfl⟩;have hp:=BH ok h hn k2;rw[k3] at hp;have e1:List.take (cw<|List.take i l) cs.toList++(List.take o2 S9++x.cells.toList++List.drop (o2+σ.n) S9)++List.drop (cw (List.take i l)+ρ.n) cs.toList=
   List.take (cw (List.take i l)+o2) cs.toList++x.cells.toList++List.drop (cw (List.take i l)+o2+σ.n) cs.toList:=by
  have t1:List.take (cw (List.take i l)+o2) cs.toList=List.take (cw<|List.take i l) cs.toList++List.take o2 S9:=by
   rw[List.take_add,<-Gn,uM,fA (by omega)]
  have t2:List.drop (cw (List.take i l)+o2+σ.n) cs.toList=List.drop (o2+σ.n) S9++List.drop (cw (List.take i l)+ρ.n) cs.toList:=by
   rw[<-Gn,tv,iF];have:List.drop (cw (List.take i l)+ρ.n) cs.toList=List.drop (ρ.n-(o2+σ.n)) (List.drop (cw (List.take i l)+(o2+σ.n)) cs.toList):=by
    rw[iF];congr 1;omega
   rw[this,yI]
   congr 1;omega
  rw[t1,t2];simp[rQ]
 rw[List.toList_toArray] at hp;rw[e1] at hp;exact hp
def lr{n:Nat}{b:Nat}{cs:ath apU}{E:aq9}{x:apU}(hT:(P.info? T).map (·.size)=some n)(hn:x.cells.size=n)(hb:w.heap[b]? =some (.cells cs E (0,0)))(hl:off+n<=cs.size)(h1:∀c∈x.cells.toList,c.oneCell'=true):
  (storeVar T ⟨b,off,none⟩ x).run P w= .ok () (w.setRow b (cs.toList.take off++x.cells.toList++cs.toList.drop (off+n)).toArray):=by
 cases hi:P.info? T with
 |none=>rw[hi] at hT;cases hT
 |some i=>
  rw[hi] at hT;simp at hT;have wj:=run_storeCells_at P b off E x.cells.toList 0 cs w hb (by simp;omega) h1;simp only[tG,gi,hn] at wj;simp[storeVar,Go.sizeOf,typeInfo,program,Sem.run,hi,hT,hn,wj]
def A5{n:Nat}{agg:Bool}(h:dR P T n agg=true):(P.info? T).map (·.size)=some n:=by
 unfold dR at h;split at h
 ·rename_i i dd hi hu;simp only[bV] at h;rw[hi];simp[fB h.1.1]
 ·cases h
def PM{c8:Ctx}(bO:∀q∈c8,q∈Γ)(hp:look c8 p=some (.ptr t off))(ht:look c8 t=some (.own T' τ))(hx:Arg c8 x σ)(hs:il τ off σ Fl)(hT:dR P T σ.n σ.agg=true):
  Step P N ops ⟨none,.store T (.tmp p) x,ty,pos,af,none⟩ Γ ((t,.own T' Fl)::bN t Γ):=by
 intro w0 H0 a w H cn K Q k;simp only[Region.wanted,if_true];obtain⟨b,v,e,hb,hv,hH,hB⟩:=cn.holds _ (bO _<|ay ht);obtain⟨b',e1,e2⟩:=cn.holds _ (bO _<|ay hp);simp only at e e1;rw[e] at e1;cases e1;have ep:a.eval (.tmp p)= .pointer (some ⟨b,off,none⟩):=e2;have FR:=hx.ok<|cn.weaken bO
 have nP:=σ.shape FR;obtain⟨h1,x',h2,h3⟩:=hs H v _ hv FR;have qb:=lr (P:=P) (A5 hT) nP.size hb h1 nP.cell;rw[<-h3] at qb;unfold Oper.wp;have er:(execOp a.eval ⟨none,.store T (.tmp p) x,ty,pos,af,none⟩).run P w= .ok .skip (w.setRow b x'.cells):=by
  simp[execOp,ep,Instr.storeAt,Instr.sureAddr,qb]
 rw[er,vA];have hg:zM w (w.setRow b x'.cells) (some b):=zM.setRow w b _;refine k a _ H<|iK cn (bO _<|ay ht) hg hB ⟨_,e,rfl⟩ ⟨b,x',e,Eu w b _ _ _ _ hb,h2,hH,hB⟩ fun c hc=>?_
 obtain⟨ad,e',hc⟩:=hc;simp only[e] at e';cases e';exact .inl ⟨_,e,hc⟩
def M7(hp:look Γ p=some (.ptr t off))(ht:look Γ t=some (.own T' τ))(hx:Arg Γ x σ)(hs:il τ off σ Fl)(hT:dR P T σ.n σ.agg=true):
  Step P N ops ⟨none,.store T (.tmp p) x,ty,pos,af,none⟩ Γ ((t,.own T' Fl)::bN t Γ):=PM (fun _ h=>h) hp ht hx hs hT
def Jj(hp:look Γ p=some (.ptr t off))(ht:look Γ t=some (.own T' τ))(hx:Arg Γ x σ)(hs:il τ off σ Fl)(hT:dR P T σ.n σ.agg=true):
  Px P N ops Γ ⟨none,.store T (.tmp p) x,ty,pos,af,none⟩ t (.own T' Fl):=fun _ bO=>PM bO hp ht hx hs hT
def FB{c8:Ctx}(bO:∀q∈c8,q∈Γ)(ht:look c8 t=some (.own T' τ))(hx:Arg c8 x σ)(hn:σ.n=τ.n)(hT:dR P T σ.n σ.agg=true):
  Step P N ops ⟨none,.store T (.tmp t) x,ty,pos,af,none⟩ Γ ((t,.own T' σ)::bN t Γ):=by
 intro w0 H0 a w H cn K Q k;simp only[Region.wanted,if_true];obtain⟨b,v,e,hb,hv,hH,hB⟩:=cn.holds _ (bO _<|ay ht);have ep:a.eval (.tmp t)= .pointer (some ⟨b,0,none⟩):=e;have FR:=hx.ok<|cn.weaken bO
 have nP:=σ.shape FR;obtain⟨h1,x',h2,h3⟩:=il.whole hn H v _ hv FR;have qb:=lr (P:=P) (A5 hT) nP.size hb h1 nP.cell;rw[<-h3] at qb;unfold Oper.wp;have er:(execOp a.eval ⟨none,.store T (.tmp t) x,ty,pos,af,none⟩).run P w= .ok .skip (w.setRow b x'.cells):=by
  simp[execOp,ep,Instr.storeAt,Instr.sureAddr,qb]
 rw[er,vA];have hg:zM w (w.setRow b x'.cells) (some b):=zM.setRow w b _;refine k a _ H<|iK cn (bO _<|ay ht) hg hB ⟨_,e,rfl⟩ ⟨b,x',e,Eu w b _ _ _ _ hb,h2,hH,hB⟩ fun c hc=>?_
 obtain⟨ad,e',hc⟩:=hc;simp only[e] at e';cases e';exact .inl ⟨_,e,hc⟩
def sU(ht:look Γ t=some (.own T' τ))(hx:Arg Γ x σ)(hn:σ.n=τ.n)(hT:dR P T σ.n σ.agg=true):
  Step P N ops ⟨none,.store T (.tmp t) x,ty,pos,af,none⟩ Γ ((t,.own T' σ)::bN t Γ):=FB (fun _ h=>h) ht hx hn hT
def O9(ht:look Γ t=some (.own T' τ))(hx:Arg Γ x σ)(hn:σ.n=τ.n)(hT:dR P T σ.n σ.agg=true):
  Px P N ops Γ ⟨none,.store T (.tmp t) x,ty,pos,af,none⟩ t (.own T' σ):=fun _ bO=>FB bO ht hx hn hT
def lW{op:BinOp}(hx:Arg Γ x σ)(hy:Arg Γ y τ)
 (h:∀H u v,σ.ok H u->τ.ok H v->∀w:apT,(∀r o,H r=some o->w.heap[r]? =some o)->∃z,(do eqGuard op T x y u v;binOp op T u v:Sem apU).run P w= .ok z w/\ρ.ok H z):bI P Γ ⟨d,.binOp op T x y T',ty,pos,af,g⟩ (.val ρ):=
 bb fun _ _ _ a w H hs=>by
  obtain⟨z,h1,h2⟩:=h H _ _ (hx.ok hs) (hy.ok hs) w hs.sub;refine⟨z,?_,h2,rfl⟩;have e:execOp a.eval ⟨d,.binOp op T x y T',ty,pos,af,g⟩=(do let z<-(do eqGuard op T x y (a.eval x) (a.eval y);binOp op T (a.eval x) (a.eval y):Sem apU);pure (.value z)):=rfl;rw[e,eN,h1]
  rfl
def uB(hx:Arg Γ x (TI k m))(hy:Arg Γ y (TI k n)):bI P Γ ⟨d,.binOp .add T x y T',ty,pos,af,g⟩ (.val<|TI k<|k.wrap<|m+n):=
 lW hx hy fun H u v hu hv w _=>by
  cases hu;cases hv;exact⟨_,by simp[eqGuard,binOp,Op.intArith],rfl⟩
def Ac(hx:Arg Γ x (TI k m))(hy:Arg Γ y (TI k n)):bI P Γ ⟨d,.binOp .sub T x y T',ty,pos,af,g⟩ (.val<|TI k<|k.wrap<|m-n):=
 lW hx hy fun H u v hu hv w _=>by
  cases hu;cases hv;exact⟨_,by simp[eqGuard,binOp,Op.intArith],rfl⟩
def wx(hx:Arg Γ x (TI k m))(hy:Arg Γ y (TI k n)):bI P Γ ⟨d,.binOp .mul T x y T',ty,pos,af,g⟩ (.val<|TI k<|k.wrap<|m*n):=
 lW hx hy fun H u v hu hv w _=>by
  cases hu;cases hv;exact⟨_,by simp[eqGuard,binOp,Op.intArith],rfl⟩
def abk(hx:Arg Γ x (TI k m))(hy:Arg Γ y (TI k n))(h:n≠0):bI P Γ ⟨d,.binOp .quo T x y T',ty,pos,af,g⟩ (.val<|TI k<|k.wrap<|m.tdiv n):=
 lW hx hy fun H u v hu hv w _=>by
  cases hu;cases hv;exact⟨_,by simp[eqGuard,binOp,Op.intDiv,h],rfl⟩
def ahx(hx:Arg Γ x (TI k m))(hy:Arg Γ y (TI k n))(h:n≠0):bI P Γ ⟨d,.binOp .rem T x y T',ty,pos,af,g⟩ (.val<|TI k<|m.tmod n):=
 lW hx hy fun H u v hu hv w _=>by
  cases hu;cases hv;exact⟨_,by simp[eqGuard,binOp,Op.intDiv,h],rfl⟩
def eC(hx:Arg Γ x (TI k m))(hy:Arg Γ y (TI k n)):bI P Γ ⟨d,.binOp .lss T x y T',ty,pos,af,g⟩ (.val<|aY<|decide<|m<n):=
 lW hx hy fun H u v hu hv w _=>by
  cases hu;cases hv;exact⟨_,by simp[eqGuard,binOp,Op.intCmp],rfl⟩
def yc(hx:Arg Γ x (TI k m))(hy:Arg Γ y (TI k n)):bI P Γ ⟨d,.binOp .leq T x y T',ty,pos,af,g⟩ (.val<|aY<|decide<|m<=n):=
 lW hx hy fun H u v hu hv w _=>by
  cases hu;cases hv;exact⟨_,by simp[eqGuard,binOp,Op.intCmp],rfl⟩
def cq(hx:Arg Γ x (TI k m))(hy:Arg Γ y (TI k n)):bI P Γ ⟨d,.binOp .gtr T x y T',ty,pos,af,g⟩ (.val<|aY<|decide<|n<m):=
 lW hx hy fun H u v hu hv w _=>by
  cases hu;cases hv;exact⟨_,by simp[eqGuard,binOp,Op.intCmp],rfl⟩
def jG(hx:Arg Γ x (TI k m))(hy:Arg Γ y (TI k n)):bI P Γ ⟨d,.binOp .geq T x y T',ty,pos,af,g⟩ (.val<|aY<|decide<|n<=m):=
 lW hx hy fun H u v hu hv w _=>by
  cases hu;cases hv;exact⟨_,by simp[eqGuard,binOp,Op.intCmp],rfl⟩
def df(hx:Arg Γ x (TI k m))(hy:Arg Γ y (TI k n)):bI P Γ ⟨d,.binOp .eql T x y T',ty,pos,af,g⟩ (.val<|aY<|decide<|m=n):=
 lW hx hy fun H u v hu hv w _=>by
  cases hu;cases hv;refine⟨.bool<|m==n,by simp[eqGuard,binOp,Op.intCmp],?_⟩;show _=_
  congr 1
end
end Trn
