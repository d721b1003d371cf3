/-
  Part of the proof of DrawMoves.
-/
import Derived.WalkKit
import Derived.Orders
import Derived.RangeFuncIn
import Derived.RangeFuncRecord
import Derived.RangeFuncLeaves
import Derived.RangeFuncSeq
import Derived.Scope
import Derived.Shelf.Strings.Builder1
set_option maxRecDepth 100000
set_option maxHeartbeats 20000000
set_option linter.all false
open Go Go.RowKit Go.Proofs
namespace Trn
def bg:= @of_decide_eq_true
def bV:= @of_decide_eq_false
def bp:= @decide_eq_true
def bU:= @decide_eq_false
def cW:= @Bool.and_eq_true
def fe:= @List.take_of_length_le
def bP:= @List.mem_cons
def bG:= @Nat.le_refl
def fY:= @List.mem_cons_of_mem
def kc:= @Int.mul_le_mul_of_nonneg_left
def bC:= @Int.mul_add
def dC:= @List.all_eq_true
def fX:= @Nat.eq_of_beq_eq_true
def iw:= @List.getD_eq_getElem?_getD
def gQ:= @Int.eq_ofNat_of_zero_le
def eQ:= @Go.Result.andThen_ok
def gP:= @Nat.le_of_ble_eq_true
def jk:= @List.getElem?_eq_some_iff
def gN:= @Array.length_toList
def fG:= @Option.some.inj
def fW:= @Nat.min_eq_left
def kQ:= @List.getElem?_eq_getElem
def fp:= @Int.mul_assoc
def gG:= @List.length_map
def fh:= @Go.Sem.run_bind
def lq:= @decide_eq_false_iff_not
def iU:= @Int.mul_left_comm
def jj:= @Bool.not_eq_true'
def j4:= @decide_eq_true_iff
def fZ:= @Nat.le_trans
def gj:= @Int.le_of_lt
def fA:= @cond_false
def kP:= @Int.natAbs_natCast
def ji:= @List.drop_drop
def sW:= @List.eq_nil_of_length_eq_zero
def nE:= @Nat.mul_le_mul_right
def uu:= @Int.mul_le_mul_of_nonneg_right
def oG:= @Nat.ble_eq_true_of_le
def fU:= @cond_true
def sV:= @Int.sign_eq_neg_one_of_neg
def sU:= @Classical.byContradiction
def ru:= @Int.sign_eq_one_of_pos
def mw:= @List.mem_append
def oF:= @Nat.lt_of_lt_of_le
def jv:= @Nat.zero_le
def nS:= @List.getElem?_map
def nD:= @List.length_drop
def xF:= @List.getElem?_append_left
def ln:= @Nat.lt_or_ge
def rr:= @Int.emod_lt_of_pos
def zO:= @Array.getElem?_eq_some_iff
def ur:= @Int.ofNat_eq_natCast
def ll:= @Int.add_mul
def vX:= @Array.getElem?_toList
def vW:= @List.length_replicate
def rq:= @List.append_assoc
def pk:= @List.length_set
def xE:= @List.drop_of_length_le
def vV:= @List.mem_of_mem_take
def Bk:= @List.getElem?_append_right
def vU:= @Nat.pow_le_pow_right
def rp:= @List.getElem_mem
def qd:= @Bool.or_eq_true
def mK:= @Int.mul_sub
def rn:= @Int.ediv_nonneg
def qc:= @Go.run_underlying
def vT:= @List.mem_singleton
def zN:= @List.take_append_drop
def zM:= @Int.emod_add_mul_ediv
def CE:= @List.drop_eq_getElem_cons
def sT:= @Int.emod_nonneg
def rm:= @Int.mul_nonneg
def vS:= @Int.lt_trichotomy
def zL:= @Bool.or_eq_false_iff
def zK:= @List.mem_of_mem_drop
def EK:= @Array.getD_eq_getD_getElem?
def pj:= @Go.Sem.run_pure
def ph:= @getElem!_pos
def xD:= @Nat.eq_zero_or_pos
def Bj:= @List.contains_iff_mem
def uq:= @Go.Oper.upon_value
def sR:= @Go.heap_alloc_new
def uo:= @Int.natCast_mul
def qb:= @List.mem_map
def pg:= @Nat.add_mul
def zJ:= @List.getElem?_drop
def um:= @List.drop_take
def uk:= @Int.natAbs_mul
def sQ:= @Bool.true_and
def CD:= @List.mem_append_right
def zI:= @decide_eq_true_eq
def qa:= @Int.mul_one
def uj:= @Nat.add_assoc
def vR:= @List.take_take
def vQ:= @Nat.mul_le_mul
def Bi:= @List.getElem?_take
def zH:= @List.drop_append
def zG:= @List.not_mem_nil
def CC:= @beq_eq_false_iff_ne
def p9:= @bne_iff_ne
def pF:= @Nat.mul_comm
def AI:= @List.mem_append_left
def sE:= @List.all_cons
def yJ:= @Rat.divInt_eq_div
def wK:= @List.append_nil
def FM:= @Array.getElem?_eq_getElem
def CV:= @Array.getElem?_modify
def yI:= @decide_eq_decide
def yH:= @List.drop_length
def uy:= @List.map_cons
def qO:= @Nat.pow_add
def wJ:= @List.mem_range
def wI:= @Go.Oper.upon_skip
def wH:= @Int.mul_le_mul
def yG:= @Option.map_some
def CU:= @List.length_pos_iff
def ux:= @Nat.add_zero
def FL:= @List.getElem?_set_self
def JB:= @Int.fdiv_eq_ediv_of_nonneg
def AH:= @Nat.mod_eq_of_lt
def AG:= @Int.ediv_le_self
def CT:= @Bool.false_eq_true
def yF:= @List.drop_zero
def yE:= @Bool.and_false
def uw:= @Nat.one_mul
def wG:= @Nat.zero_add
def AF:= @List.nil_append
def FK:= @List.mem_of_getElem?
def AE:= @Bool.decide_and
def CS:= @Int.emod_eq_of_lt
def yD:= @Bool.false_or
def JA:= @Go.World.putObj_heap_other
def FJ:= @Nat.mul_le_mul_left
def CR:= @Nat.le_add_right
def CQ:= @List.isEmpty_iff
def uv:= @Nat.mod_lt
def wF:= @Nat.le_succ
def yC:= @List.map_set
def M5:= @Int.gcd_pos_of_ne_zero_left
def yB:= @Prod.ext_iff
def CP:= @List.mem_filter
def CO:= @Go.Oper.upon_enter
def CN:= @List.length_nil
def CL:= @Array.size_ofFn
def Jz:= @Int.ediv_lt_of_lt_mul
def M4:= @Array.toList_setIfInBounds
def wE:= @beq_iff_eq
def M3:= @List.getElem?_zip_eq_some
def Jy:= @List.contains_eq_mem
def M1:= @List.pairwise_iff_getElem
def M0:= @Int.lt_of_mul_lt_mul_left
def yA:= @Nat.log2_lt
def CJ:= @Bool.false_and
def FI:= @Option.getD_some
def AD:= @Int.mul_zero
def Jw:= @List.take_replicate
def FH:= @Nat.two_pow_pos
def FG:= @Int.mul_ne_zero
def FF:= @Rat.num_eq_zero
def MZ:= @Go.World.putObj_heap_same
def MY:= @List.length_eq_one_iff
def Jv:= @List.size_toArray
def Ju:= @List.ext_getElem?
def FE:= @List.drop_left
def MX:= @Array.getElem?_append
def CH:= @Nat.add_comm
def FD:= @Bool.not_false
def MW:= @List.getElem?_eq_none
def FC:= @Int.natAbs_neg
def CG:= @Nat.pow_succ
def FB:= @Rat.mkRat_self
def Jt:= @List.take_append
def Js:= @Go.Lib.cell_of_heap
def MV:= @BitVec.ofInt_natCast
def MU:= @List.take_succ_cons
def MT:= @List.drop_set_of_lt
def Jr:= @List.foldl_cons
def FA:= @Bool.true_or
def Fz:= @Nat.le_of_lt
def MS:= @List.map_replicate
def Fy:= @Nat.gcd_comm
def Fx:= @Int.add_zero
def MR:= @Bool.not_eq_false'
def MQ:= @BitVec.toNat_ofNat
def MP:= @Int.mul_right_comm
def Jq:= @Rat.num_divInt
def Jp:= @Rat.den_divInt
def Fw:= @Go.setRow_heap
def Fv:= @Nat.pow_pos
def Jo:= @Prod.mk.injEq
def MO:= @List.cons_append
def MN:= @List.any_eq_true
def CF:= @Go.wpIn_mono
def Jn:= @List.map_map
def Jm:= @Int.zero_mul
def MM:= @List.all_append
def ML:= @UInt8.toNat_inj
def MK:= @List.take_left
def MJ:= @List.take_succ
def Jl:= @Rat.neg_num
def Jk:= @Rat.neg_den
def SA:= @Nat.lt_of_le_of_lt
def Sz:= @Rat.sub_eq_add_neg
def Sy:= @List.pairwise_cons
def Sx:= @Array.toList_ofFn
def MI:= @List.map_nil
def MH:= @Nat.zero_mul
def ax{α:Sort _}{a b:α}(h:a=b:=by kernel_rfl):a=b:=h
abbrev asv:=List
abbrev auz:=Option
abbrev aq5:=World
abbrev aq6:=Value
abbrev asu:=Operand
abbrev asr:=TypeId
abbrev ast:=Program
abbrev auA:=Array
abbrev HV:=Nat->auz Obj
class DR where
 on:Bool
def DR.m[D:DR](w:aq5):Nat:=cond D.on w.drawn 0
abbrev DR.strict:DR:=⟨true⟩
instance DR.lax:DR:=⟨false⟩
abbrev HU[D:DR](w w':aq5):Prop:=DR.m w<=DR.m w'
def HU.of[D:DR]{w w':aq5}(h:w.drawn<=w'.drawn):HU w w':=by
 unfold HU DR.m;cases D.on
 ·exact bG _
 ·exact h
class PG[D:DR]:Prop where
 off:D.on=false
def HU.aom[D:DR][T:PG]{w w':aq5}:HU w w':=by
 unfold HU DR.m;rw[T.off];exact bG _
instance: @PG DR.lax:= @PG.mk DR.lax rfl
def HV.le(H H':HV):Prop:=∀r o,H r=some o->H' r=some o
def HV.le.refl(H:HV):HV.le H H:=fun _ _ h=>h
def HV.le.trans{A B C:HV}(h:HV.le A B)(k:HV.le B C):HV.le A C:=fun r o x=>k r o<|h r o x
def Ck:auA aq6:=((List.range 20).map fun i=>Value.int .u64<|10^i).toArray
def Fa(P:ast)(T:asr)(o:auz Obj):Prop:=match P.underlying T with
 |some (.int k)=>∃m E fr,o=some (.cells #[.int k m] E fr)
 |some (.array 20 _)=>∃E fr,o=some (.cells Ck E fr)
 |_=>True
def qn(P:ast)(H:HV):Prop:=∀g T,(P.globals[g]?).map (·.type)=some T->Fa P T (H g)
def qn.mono{P:ast}{H H':HV}(h:HV.le H H')(k:qn P H):qn P H':=fun g T e=>by
 have:=k g T e;unfold Fa at this⊢;split
 ·rename_i hu;rw[hu] at this;obtain⟨m,E,fr,e⟩:=this;exact⟨m,E,fr,h _ _ e⟩
 ·rename_i hu;rw[hu] at this;obtain⟨E,fr,e⟩:=this;exact⟨E,fr,h _ _ e⟩
 ·trivial
structure an(P:ast) where
 w:aq5
 X:Nat->Prop
 rd:auz Nat
 Qa:Bool
 ds:asv Deferred
 lo:Nat
 alq:lo<=w.heap.size
 aox:∀k,X k->lo<=k
section
variable{P:Program}
def Tl:Nat->Prop:=fun _=>False
def an.call(P:ast)(w:aq5):an P:=⟨w,Tl,none,false,[],w.heap.size,bG _,fun _ h=>h.elim⟩
def an.n(b:an P):Nat:=b.w.heap.size
def an.mY(b:an P)(k:Nat):Prop:=b.n<=k\/b.X k
def an.yt{b:an P}{k:Nat}(h:b.mY k):b.lo<=k:=h.elim (fun h=>fZ b.alq h)<|b.aox k
def an.lo_le{b:an P}:b.lo<=b.n:=b.alq
end
section
variable{P:Program}
variable[D:DR]
variable{w:aq5}{b:an P}
structure F4(n:Nat)(w w':aq5):Prop extends Below n w w' where
 drawn:HU w w'
structure AO(w w':aq5)(row:auz Nat):Prop extends w.grownBy w' row where
 drawn:HU w w'
def F4.refl(n:Nat)(w:aq5):F4 n w w:=⟨Below.refl _ _,bG _⟩
def F4.alloc{w:aq5}(o:Obj):F4 w.heap.size w (w.alloc o):=⟨(Below.refl _ _).alloc (bG _) _,bG _⟩
def AO.setRow(w:aq5)(b:Nat)(cs:auA aq6):AO w (w.setRow b cs) (some b):=⟨⟨rfl,rfl,rfl,by simp,fun k _ hk=>setRow_other w b k _ (fun e=>hk (by rw[e]))⟩,bG _⟩
structure Kept(b:an P)(w:aq5):Prop where
 os:w.os=b.w.os
 tape:w.tape=b.w.tape
 output:w.output=b.w.output
 drawn:HU b.w w
 size:b.n<=w.heap.size
 block:b.Qa=false->∀k,k<b.n-> ¬b.X k->w.heap[k]? =b.w.heap[k]?
def Kept.step{w':aq5}(h:Kept b w)(k:F4 w.heap.size w w'):Kept b w':=
 ⟨k.os.trans h.os,k.tape.trans h.tape,k.output.trans h.output,fZ h.drawn k.drawn,fZ h.size k.size,fun hv i hi hx=>(k.block i<|oF hi h.size).trans<|h.block hv i hi hx⟩
def Kept.BE{w':aq5}{row:auz Nat}(h:Kept b w)(g:AO w w' row)(hr:∀k,row=some k->b.mY k):Kept b w':=
 ⟨g.os.trans h.os,g.tape.trans h.tape,g.output.trans h.output,fZ h.drawn g.drawn,fZ h.size g.size,fun hv i hi hx=>(g.block i (oF hi h.size) (fun e=>by
  rcases hr i e.symm with h1|h1
  ·omega
  ·exact hx h1)).trans<|h.block hv i hi hx⟩
def Kept.below(h:Kept b w)(hX:b.X=Tl)(hv:b.Qa=false):F4 b.w.heap.size b.w w:=⟨⟨h.os,h.tape,h.output,h.size,fun k hk=>h.block hv k hk (by rw[hX];exact fun h=>h)⟩,h.drawn⟩
end
section
variable{P:Program}
variable{H:HV}{v:aq6}{H':HV}
def grow(H:HV)(w w':aq5):HV:=fun r=>if r<w.heap.size then H r else w'.heap[r]?
def KA:Bool->auA aq6->aq6
 |true,cs=> .agg cs
 |false,cs=>cs.getD 0 undef
structure Shape(n:Nat)(agg:Bool)(v:aq6):Prop where
 size:v.cells.size=n
 cell:∀c∈v.cells.toList,c.oneCell'=true
 eq:v=KA agg v.cells
def Shape.one(h:v.oneCell'=true):Shape 1 false v:=by
 have hc:v.cells= #[v]:=by cases v<;>first|rfl|simp[Value.oneCell'] at h
 refine⟨by simp[hc],by simp[hc,h],by simp[hc,KA]⟩
structure Ty where
 n:Nat
 agg:Bool
 ok:HV->aq6->Prop
 mono:∀{H H':HV} {v:aq6},HV.le H H'->ok H v->ok H' v
 shape:∀{H:HV} {v:aq6},ok H v->Shape n agg v
def XH(v:aq6)(h:v.oneCell'=true):Ty where
 n:=1
 agg:=false
 ok:=fun _ x=>x=v
 mono:=fun _ h=>h
 shape:=fun e=>by subst e;exact Shape.one h
def TI(k:IntKind)(n:Int):Ty:=XH (.int k n) rfl
def aZ(b:Bool):Ty:=XH (.bool b) rfl
def VH(s:ByteArray):Ty:=XH (.string s) rfl
@[simp] theorem aey{k:IntKind}{n:Int}:(TI k n).ok H v↔v= .int k n:=Iff.rfl
@[simp] theorem ant{b:Bool}:(aZ b).ok H v↔v= .bool b:=Iff.rfl
@[simp] theorem an9{b:ByteArray}:(VH b).ok H v↔v= .string b:=Iff.rfl
def vH(H:HV):asv Ty->asv aq6->Prop
 |[],cs=>cs=[]
 |τ::l,cs=>∃v rest,cs=v.cells.toList++rest/\τ.ok H v/\vH H l rest
def dm(l:asv Ty):Nat:=(l.map (·.n)).sum
@[simp] theorem Xx:dm []=0:=rfl
@[simp] theorem LC(τ:Ty)(l:asv Ty):dm (τ::l)=τ.n+dm l:=by simp[dm]
def tU{H H':HV}(h:HV.le H H'):∀{l:asv Ty} {cs:asv aq6},vH H l cs->vH H' l cs
 |[],_,e=>e
 |_::_,_,⟨v,rest,e,hv,hr⟩=>⟨v,rest,e,Ty.mono _ h hv,tU h hr⟩
def oD{H:HV}:∀{l:asv Ty} {cs:asv aq6},vH H l cs->cs.length=dm l
 |[],_,e=>by subst e;rfl
 |τ::l,_,⟨v,rest,e,hv,hr⟩=>by
  subst e;have:=oD hr;have hs:=(τ.shape hv).size;simp[this,hs]
def wY{H:HV}:∀{l:asv Ty} {cs:asv aq6},vH H l cs->∀c∈cs,c.oneCell'=true
 |[],_,e=>by subst e;simp
 |τ::l,_,⟨v,rest,e,hv,hr⟩=>by
  subst e;intro c hc;rcases mw.1 hc with h|h
  ·exact(τ.shape hv).cell c h
  ·exact wY hr c h
def vG{H:HV}:∀{l:asv Ty} {cs:asv aq6} {l':asv Ty} {Bs:asv aq6},vH H l cs->vH H l' Bs->vH H (l++l') (cs++Bs)
 |[],_,_,_,e,h=>by subst e;simpa using h
 |_::_,_,_,_,⟨v,rest,e,hv,hr⟩,h=>by
  subst e;exact⟨v,_,by simp,hv,vG hr h⟩
def oR{H:HV}:∀{l:asv Ty} {cs:asv aq6} {i:Nat} {τ:Ty},vH H l cs->l[i]? =some τ->
  dm (l.take i)+τ.n<=cs.length/\τ.ok H (KA τ.agg ((cs.drop<|dm<|l.take i).take τ.n).toArray)
 |[],_,i,_,_,h=>by simp at h
 |σ::l,_,0,τ,⟨v,rest,e,hv,hr⟩,h=>by
  simp at h;subst h;subst e;have hs:=σ.shape hv;refine⟨by simp[hs.size],?_⟩;have:(List.take σ.n<|v.cells.toList++rest).toArray=v.cells:=by
   rw[<-hs.size,<-gN,MK]
  simpa[this,<-hs.eq] using hv
 |σ::l,_,i+1,τ,⟨v,rest,e,hv,hr⟩,h=>by
  simp at h;subst e;have hs:=σ.shape hv;obtain⟨h1,h2⟩:=oR hr h;have hd:List.drop (σ.n+dm (List.take i l)) (v.cells.toList++rest)=List.drop (dm<|List.take i l) rest:=by
   rw[<-hs.size,<-gN,zH];simp
  refine⟨?_,?_⟩
  ·simp[hs.size];omega
  ·simp only[MU,LC,hd];exact h2
def Cv{H:HV}:∀{l:asv Ty} {cs:asv aq6} {i:Nat} {τ σ:Ty} {x:aq6},vH H l cs->l[i]? =some τ->σ.n=τ.n->σ.ok H x->
  vH H (l.set i σ) (cs.take (dm<|l.take i)++x.cells.toList++cs.drop (dm (l.take i)+τ.n))
 |[],_,i,_,_,_,_,h,_,_=>by simp at h
 |ρ::l,_,0,τ,σ,x,⟨v,rest,e,hv,hr⟩,h,hn,hx=>by
  simp at h;subst h;subst e;have hs:=ρ.shape hv;have hd:List.drop ρ.n (v.cells.toList++rest)=rest:=by
   rw[<-hs.size,<-gN,FE]
  simp only[List.set_cons_zero,List.take_zero,Xx,wG,AF,hd];exact⟨x,rest,rfl,hx,hr⟩
 |ρ::l,_,i+1,τ,σ,x,⟨v,rest,e,hv,hr⟩,h,hn,hx=>by
  simp at h;subst e;have hs:=ρ.shape hv;have ih:=Cv hr h hn hx;have h1:List.take (ρ.n+dm (List.take i l)) (v.cells.toList++rest)=v.cells.toList++List.take (dm<|List.take i l) rest:=by
   rw[<-hs.size,<-gN,Jt];simp[fe]
  have h2:List.drop (ρ.n+dm (List.take i l)+τ.n) (v.cells.toList++rest)=List.drop (dm (List.take i l)+τ.n) rest:=by
   rw[<-hs.size,<-gN,uj,zH];simp
  simp only[List.set_cons_succ,MU,LC,h1,h2];exact⟨v,_,by simp,hv,ih⟩
def gn(l:asv Ty):Ty where
 n:=dm l
 agg:=true
 ok:=fun H v=>∃cs,v= .agg cs/\vH H l cs.toList
 mono:=fun h ⟨cs,e,k⟩=>⟨cs,e,tU h k⟩
 shape:=fun⟨cs,e,k⟩=>by
  subst e;exact⟨by simpa[Value.cells] using oD k,by simpa[Value.cells] using wY k,rfl⟩
def Ct(H:HV):asv Ty->asv aq6->Prop
 |[],vs=>vs=[]
 |τ::l,vs=>∃v rest,vs=v::rest/\τ.ok H v/\Ct H l rest
def Ez{H H':HV}(h:HV.le H H'):∀{l:asv Ty} {vs:asv aq6},Ct H l vs->Ct H' l vs
 |[],_,e=>e
 |_::_,_,⟨v,rest,e,hv,hr⟩=>⟨v,rest,e,Ty.mono _ h hv,Ez h hr⟩
def acx{H:HV}:∀{l:asv Ty} {vs:asv aq6} {i:Nat} {τ:Ty},Ct H l vs->l[i]? =some τ->∃v,vs[i]? =some v/\τ.ok H v
 |[],_,i,_,_,h=>by simp at h
 |_::_,_,0,_,⟨v,rest,e,hv,_⟩,h=>by simp at h;subst h;subst e;exact⟨v,rfl,hv⟩
 |_::_,_,i+1,_,⟨v,rest,e,_,hr⟩,h=>by simp at h;subst e;simpa using acx hr h
def Am{H:HV}:∀{l:asv Ty} {vs:asv aq6},Ct H l vs->vs.length=l.length
 |[],_,e=>by subst e;rfl
 |_::_,_,⟨v,rest,e,_,hr⟩=>by subst e;simp[Am hr]
def nY(τ:Ty):Ty where
 n:=1
 agg:=false
 ok:=fun H v=>∃b off cs E fr,v= .pointer (some ⟨b,off,none⟩)/\H b=some (.cells cs E fr)/\off+τ.n<=cs.size/\
  τ.ok H (KA τ.agg ((cs.toList.drop off).take τ.n).toArray)
 mono:=fun h ⟨b,off,cs,E,fr,e,hb,hl,k⟩=>⟨b,off,cs,E,fr,e,h _ _ hb,hl,τ.mono h k⟩
 shape:=fun⟨_,_,_,_,_,e,_⟩=>by subst e;exact Shape.one rfl
def J5(l:asv Ty):Ty where
 n:=1
 agg:=false
 ok:=fun H v=>∃ad cap,v= .slice ad l.length cap/\l.length<=cap/\
  (l≠[]->∃b off cs E fr,ad=some ⟨b,off,none⟩/\H b=some (.cells cs E fr)/\off+dm l<=cs.size/\vH H l ((cs.toList.drop off).take<|dm l))
 mono:=fun h ⟨ad,cap,e,hc,k⟩=>⟨ad,cap,e,hc,fun hl=>by
  obtain⟨b,off,cs,E,fr,e1,hb,hs,ho⟩:=k hl;exact⟨b,off,cs,E,fr,e1,h _ _ hb,hs,tU h ho⟩⟩
 shape:=fun⟨_,_,e,_,_⟩=>by subst e;exact Shape.one rfl
def TEx{α:Type}(n:Nat)(agg:Bool)(p:α->Prop)(τ:α->Ty)(hn:∀a,(τ a).n=n)(ha:∀a,(τ a).agg=agg):Ty where
 n:=n
 agg:=agg
 ok:=fun H v=>∃a,p a/\(τ a).ok H v
 mono:=fun h ⟨a,pa,k⟩=>⟨a,pa,(τ a).mono h k⟩
 shape:=fun⟨a,_,k⟩=>by have:=(τ a).shape k;rw[hn,ha] at this;exact this
def okM(H:HV):Nat->asv (Ty×Ty)->asv MapEntry->Prop
 |_,[],[]=>True
 |i,(k,e)::l,x::xs=>k.ok H x.key/\e.ok H x.val/\x.born=i/\okM H (i+1) l xs
 |_,_,_=>False
def Oy{H H':HV}(h:HV.le H H'):∀{i:Nat} {l:asv (Ty×Ty)} {es:asv MapEntry},okM H i l es->okM H' i l es
 |_,[],[],_=>trivial
 |_,[],_::_,k=>k.elim
 |_,(_,_)::_,[],k=>k.elim
 |_,(k,e)::_,_::_,⟨h1,h2,h3,h4⟩=>⟨k.mono h h1,e.mono h h2,h3,Oy h h4⟩
def aex(L:asv (Ty×Ty)):Ty where
 n:=1
 agg:=false
 ok:=fun H v=>∃r es,v= .map (some r)/\H r=some (.map es es.size)/\okM H 0 L es.toList
 mono:=fun h ⟨r,es,e,hr,k⟩=>⟨r,es,e,h _ _ hr,Oy h k⟩
 shape:=fun⟨_,_,e,_,_⟩=>by subst e;exact Shape.one rfl
end
section
variable{P:Program}
variable[D:DR]
variable{w:aq5}{H:HV}{B:an P}{v:aq6}{a:Act}{w':aq5}{H':HV}{b:Nat}{Eb:asr}{w0:an P}{H0:HV}{N d:Nat}{B':an P}{E:asr}{l:asv Ty}
structure Far(n:Nat)(own:Nat->Prop)(w:aq5)(H:HV)(w':aq5)(H':HV):Prop where
 size:w.heap.size<=w'.heap.size
 os:w'.os=w.os
 tape:w'.tape=w.tape
 output:w'.output=w.output
 drawn:HU w w'
 le:HV.le H H'
 lr:∀b,b<w.heap.size->(b<n\/own b)->w'.heap[b]? =w.heap[b]?
 view:∀b,b<w.heap.size->(b<n\/own b)->H' b=H b
 sub:∀r o,H' r=some o->w'.heap[r]? =some o
def Far.imp{n m:Nat}{p q:Nat->Prop}{w w':aq5}{H H':HV}(h:Far n p w H w' H')(hm:m<=n)(hq:∀b,q b->p b):Far m q w H w' H':=
 ⟨h.size,h.os,h.tape,h.output,h.drawn,h.le,fun b hb k=>h.lr b hb<|k.imp (fun x=>oF x hm)<|hq b,fun b hb k=>h.view b hb<|k.imp (fun x=>oF x hm)<|hq b,h.sub⟩
def Ol:Obj->Prop
 | .deferred _=>False
 |_=>True
structure Inv where
 n:Nat
 M:Nat->Prop
 p:aq5->HV->Prop
 lt:∀{w:aq5} {H:HV} {b:Nat},p w H->M b->b<w.heap.size/\H b=none/\∃o,w.heap[b]? =some o/\Ol o
 step:∀{w w':aq5} {H H':HV},p w H->Far n M w H w' H'->p w' H'
inductive mH where
 |val(τ:Ty)
 |buf(l:asv Ty)
 |any
inductive mc where
 |val(τ:Ty)
 |any(n:Nat)(agg:Bool)
 |sm(u:Nat)
 |buf(E:asr)(sz:Nat)(l:asv Ty)
 |map(K E:asr)(Eb:asr)(sz:Nat)(mG:asv (Ty×mH))
inductive bN where
 |val(τ:Ty)
 |J3(l:asv Ty)
 |own(T:asr)(τ:Ty)
 |ptr(t off:Nat)
 |opt(c:Bool)(s:bN)
 |same(t:Nat)
 |DK(t j sz:Nat)
 |bpf(t off:Nat)
 |gone
 |buf(E:asr)(sz:Nat)(l:asv Ty)
 |rC(T:asr)(agg:Bool)(ps:asv mc)
 |oQ(K E:asr)(Eb:asr)(sz:Nat)(mG:asv (Ty×mH))
 |EB(Eb:asr)(sz:Nat)(l:asv Ty)(i:Nat)
 |inv(I:Inv)
 |PL(t:Nat)(v:aq6)
 |mb(l:Nat)(rc:Loop)
 |tn(L:asv (Ty×Ty))(seen:asv Nat)
 |vec(k:auz FuncId)(us:asv Nat)
 |NU(t:Nat)(i:Int)
 |HX(T E:asr)(l:asv Ty)
 |pb(E:asr)(pre post:asv aq6)(l:asv Ty)
 |win(t j n sz:Nat)
 |J8(t i sz:Nat)
def aX(a:Act)(t:Nat):aq6:=a.tmps.getD t undef
def abH(a:Act)(k:auz FuncId)(us:asv Nat):aq6:=match k with
 |none=> .agg (us.map<|aX a).toArray
 |some f=> .func (.func f) #[] (us.map<|aX a).toArray
def wT(B:an P)(w:aq5)(H:HV)(E:asr)(sz:Nat)(l:asv Ty)(v:aq6):Prop:=
 ∃xs,w.ownsRow 0 E sz v l.length xs/\vH H l xs/\∀b,v.ownBlock=some b->H b=none/\B.mY b
def mH.holds(B:an P)(w:aq5)(H:HV)(Eb:asr)(sz:Nat)(v:aq6):mH->Prop
 | .val τ=>τ.ok H v
 | .buf l=>wT B w H Eb sz l v
 | .any=>True
def mH.owns(v:aq6)(b:Nat):mH->Prop
 | .buf _=>v.ownBlock=some b
 |_=>False
def PM(B:an P)(w:aq5)(H:HV)(Eb:asr)(sz:Nat):Nat->asv (Ty×mH)->asv MapEntry->Prop
 |_,[],[]=>True
 |i,(k,e)::l,x::xs=>k.ok H x.key/\e.holds B w H Eb sz x.val/\x.born=i/\PM B w H Eb sz (i+1) l xs
 |_,_,_=>False
def oj(b:Nat):asv (Ty×mH)->asv MapEntry->Prop
 |(_,e)::l,x::xs=>e.owns x.val b\/oj b l xs
 |_,_=>False
def L1:asv (Ty×mH)->asv MapEntry->Prop
 |(_,e)::l,x::xs=>(∀b,e.owns x.val b-> ¬oj b l xs)/\L1 l xs
 |_,_=>True
def I5(B:an P)(w:aq5)(H:HV)(Eb:asr)(sz:Nat)(mG:asv (Ty×mH))(v:aq6):Prop:=
 ∃r es,v= .map (some r)/\w.heap[r]? =some (.map es es.size)/\H r=none/\B.mY r/\PM B w H Eb sz 0 mG es.toList/\L1 mG es.toList
def wy(w:aq5)(mG:asv (Ty×mH))(v:aq6)(b:Nat):Prop:=
 v= .map (some b)\/∃r es,v= .map (some r)/\w.heap[r]? =some (.map es es.size)/\oj b mG es.toList
def mc.n:mc->Nat
 | .val τ=>τ.n
 | .any n _=>n
 |_=>1
def mc.agg:mc->Bool
 | .val τ=>τ.agg
 | .any _ a=>a
 |_=>false
def mc.holds(B:an P)(a:Act)(w:aq5)(H:HV)(v:aq6):mc->Prop
 | .val τ=>τ.ok H v
 | .any n g=>Shape n g v
 | .sm u=>v=aX a u/\v.oneCell'=true
 | .buf E sz l=>wT B w H E sz l v
 | .map _ _ Eb sz mG=>I5 B w H Eb sz mG v
def mc.owns(w:aq5)(v:aq6)(b:Nat):mc->Prop
 | .buf _ _ _=>v.ownBlock=some b
 | .map _ _ _ _ mG=>wy w mG v b
 |_=>False
def Q1(B:an P)(a:Act)(w:aq5)(H:HV):asv mc->asv aq6->Prop
 |[],cs=>cs=[]
 |p::l,cs=>∃v rest,cs=v.cells.toList++rest/\Shape p.n p.agg v/\p.holds B a w H v/\Q1 B a w H l rest
def py(w:aq5)(b:Nat):asv mc->asv aq6->Prop
 |[],_=>False
 |p::l,cs=>p.owns w (KA p.agg (cs.take p.n).toArray) b\/py w b l (cs.drop p.n)
def L0(w:aq5):asv mc->asv aq6->Prop
 |[],_=>True
 |p::l,cs=>(∀b,p.owns w (KA p.agg (cs.take p.n).toArray) b-> ¬py w b l (cs.drop p.n))/\L0 w l (cs.drop p.n)
def bN.holds(B:an P)(a:Act)(w:aq5)(H:HV)(v:aq6):bN->Prop
 | .val τ=>τ.ok H v
 | .J3 l=>∃vs,v= .tuple vs/\Ct H l vs.toList
 | .own T τ=>∃b x,v= .pointer (some ⟨b,0,none⟩)/\w.heap[b]? =some (.cells x.cells T (0,0))/\τ.ok H x/\H b=none/\B.mY b
 | .ptr t off=>∃b,aX a t= .pointer (some ⟨b,0,none⟩)/\v= .pointer (some ⟨b,off,none⟩)
 | .opt c s=>(c=true->s.holds B a w H v)/\(c=false->v=undef)
 | .same t=>v=aX a t
 | .DK t j sz=>∃b len cap,aX a t= .slice (some ⟨b,0,none⟩) len cap/\v= .pointer (some ⟨b,j*sz,none⟩)
 | .bpf t off=>∃b len cap,aX a t= .slice (some ⟨b,0,none⟩) len cap/\v= .pointer (some ⟨b,off,none⟩)
 | .gone=>True
 | .buf E sz l=>wT B w H E sz l v
 | .rC T _ ps=>∃b cs,v= .pointer (some ⟨b,0,none⟩)/\w.heap[b]? =some (.cells cs T (0,0))/\H b=none/\B.mY b/\Q1 B a w H ps cs.toList/\L0 w ps cs.toList/\ ¬py w b ps cs.toList
 | .oQ _ _ Eb sz mG=>I5 B w H Eb sz mG v
 | .EB Eb sz l i=>∃x,v= .tuple #[x,.int .i64 i]/\wT B w H Eb sz l x
 | .inv I=>I.p w H/\I.n=B.lo
 | .PL t x=>aX a t=x
 | .mb l rc=>w.heap[l]? =some (.loop rc)/\H l=none/\B.mY l
 | .vec k us=>v=abH a k us
 | .NU t i=>∃x,aX a t= .tuple #[x,.int .i64 i]
 | .pb E pre post l=>∃g c cur xs,v= .slice (some ⟨g,pre.length,none⟩) l.length c/\w.heap[g]? =some (.cells cur E (0,0))/\cur.toList=pre++(xs++post)/\vH H l xs/\H g=none/\B.mY g
 | .win t j n sz=>∃g len cap c,aX a t= .slice (some ⟨g,0,none⟩) len cap/\v= .slice (some ⟨g,j*sz,none⟩) n c
 | .J8 t i sz=>∃g o n c,aX a t= .slice (some ⟨g,o,none⟩) n c/\v= .pointer (some ⟨g,o+i*sz,none⟩)
 | .HX T E l=>∃b p r,v= .pointer (some ⟨b,0,none⟩)/\w.heap[b]? =some (.cells #[p,r] T (0,0))/\(p= .pointer none\/p= .pointer (some ⟨b,0,none⟩))/\H b=none/\B.mY b/\wT B w H E 1 l r/\r.ownBlock≠some b
 | .tn L seen=>∃r m es sn,v= .pointer (some ⟨r,0,none⟩)/\w.heap[r]? =some (.mapIter (some m) es.size sn es.size)/\H r=none/\B.mY r/\H m=some (.map es es.size)/\okM H 0 L es.toList/\sn.toList=seen
def bN.owns(w:aq5)(v:aq6)(b:Nat):bN->Prop
 | .own _ _=>∃ad,v= .pointer (some ad)/\ad.block=b
 | .buf _ _ _=>v.ownBlock=some b
 | .opt c s=>c=true/\s.owns w v b
 | .rC T _ ps=>∃c,v= .pointer (some ⟨c,0,none⟩)/\(b=c\/∃cs,w.heap[c]? =some (.cells cs T (0,0))/\py w b ps cs.toList)
 | .oQ _ _ _ _ mG=>wy w mG v b
 | .EB _ _ _ _=>∃x i,v= .tuple #[x,i]/\x.ownBlock=some b
 | .inv I=>I.M b
 | .mb l _=>b=l
 | .tn _ _=>∃ad,v= .pointer (some ad)/\ad.block=b
 | .pb _ _ _ _=>v.ownBlock=some b
 | .HX T _ _=>∃c,v= .pointer (some ⟨c,0,none⟩)/\(b=c\/∃p r,w.heap[c]? =some (.cells #[p,r] T (0,0))/\r.ownBlock=some b)
 |_=>False
def Iu:asv mc->asv Nat
 |[]=>[]
 | .sm u::l=>u::Iu l
 |_::l=>Iu l
def bN.bO:bN->asv Nat
 | .ptr t _=>[t]
 | .same t=>[t]
 | .DK t _ _=>[t]
 | .bpf t _=>[t]
 | .opt _ s=>s.bO
 | .rC _ _ ps=>Iu ps
 | .PL t _=>[t]
 | .vec _ us=>us
 | .NU t _=>[t]
 | .win t _ _ _=>[t]
 | .J8 t _ _=>[t]
 |_=>[]
abbrev Ctx:=asv<|Nat×bN
def Marks(B:an P)(w:aq5)(H:HV):asv Deferred->Prop
 |[]=>True
 |d::ds=>(∃D,d={target:= .collected D,args:= #[]}/\(B.rd=none->B.n<=D)/\w.heap[D]? =some (.deferred<|some [])/\H D=none/\∀e∈ds,e≠d)/\Marks B w H ds
def Marks.kept{B:an P}{w w':aq5}{H H':HV}:∀{ds:asv Deferred},Marks B w H ds->(∀D,({target:= .collected D,args:= #[]}:Deferred)∈ds->w.heap[D]? =some (.deferred<|some [])->H D=none->w'.heap[D]? =some (.deferred<|some [])/\H' D=none)->Marks B w' H' ds
 |[],_,_=>trivial
 |_::_,⟨⟨D,e,h1,h2,h3,h4⟩,r⟩,k=>⟨⟨D,e,h1,(k D (by simp[e]) h2 h3).1,(k D (by simp[e]) h2 h3).2,h4⟩,r.kept fun D hD=>k D<|fY _ hD⟩
structure Sat(w0:an P)(H0:HV)(N:Nat)(Γ:Ctx)(a:Act)(w:aq5)(H:HV):Prop where
 nd:Marks w0 w H (a.defers++w0.ds)
 sz:a.tmps.size=N
 below:Kept w0 w
 J4:w0.Qa=false->∀r,r<w0.n-> ¬w0.X r->H r=H0 r
 sub:∀r o,H r=some o->w.heap[r]? =some o
 holds:∀p∈Γ,p.2.holds w0 a w H<|aX a p.1
 sep:∀p∈Γ,∀q∈Γ,p.1≠q.1->∀b,p.2.owns w (aX a p.1) b-> ¬q.2.owns w (aX a q.1) b
 gl:qn P H
def Sat.weaken{Γ ay:Ctx}(h:Sat w0 H0 N Γ a w H)(hs:∀p∈ay,p∈Γ):Sat w0 H0 N ay a w H:=
 {h with holds:=fun p hp=>h.holds p<|hs p hp,sep:=fun p hp q hq=>h.sep p (hs p hp) q (hs q hq)}
def xP(sub:∀r o,H r=some o->w.heap[r]? =some o){r:Nat}{o:Obj}(h:H r=some o):r<w.heap.size:=
 (zO.1<|sub r o h).1
structure Ext(w:aq5)(H:HV)(w':aq5)(H':HV):Prop where
 below:F4 w.heap.size w w'
 le:HV.le H H'
 J4:∀r,r<w.heap.size->H' r=H r
 sub:∀r o,H' r=some o->w'.heap[r]? =some o
def Ext.refl{w:aq5}{H:HV}(sub:∀r o,H r=some o->w.heap[r]? =some o):Ext w H w H:=
 ⟨F4.refl _ _,HV.le.refl _,fun _ _=>rfl,sub⟩
def Ext.VV(h:Ext w H w' H')(n:Nat)(p:Nat->Prop):Far n p w H w' H':=
 ⟨h.below.size,h.below.os,h.below.tape,h.below.output,h.below.drawn,h.le,fun b hb _=>h.below.block b hb,fun b hb _=>h.J4 b hb,h.sub⟩
def Ext.grown(sub:∀r o,H r=some o->w.heap[r]? =some o)(hb:F4 w.heap.size w w'):Ext w H w' (grow H w w'):=by
 refine⟨hb,?_,?_,?_⟩
 ·intro r o h;have:=xP sub h;simp[grow,this,h]
 ·intro r h;simp[grow,h]
 ·intro r o h;by_cases hr:r<w.heap.size
  ·simp[grow,hr] at h;rw[hb.block r hr];exact sub r o h
  ·simpa[grow,hr] using h
def Ext.alloc{w:aq5}{H:HV}(sub:∀r o,H r=some o->w.heap[r]? =some o)(o:Obj):Ext w H (w.alloc o) H:=by
 refine⟨F4.alloc _,HV.le.refl _,fun _ _=>rfl,?_⟩;intro r x h;have:=xP sub h;rw[heap_alloc_old w o this];exact sub r x h
def aeB(B:an P)(w:aq5)(H:HV)(b:Nat):Prop:=b<w.heap.size/\B.mY b/\H b=none/\∃o,w.heap[b]? =some o/\Ol o
def lt_of_heap{o:Obj}(h:w.heap[b]? =some o):b<w.heap.size:=(zO.1 h).1
def mU{sz:Nat}(h:wT B w H E sz l v)(hb:v.ownBlock=some b):aeB B w H b:=by
 obtain⟨xs,hr,ho,hn⟩:=h;refine⟨(hr.lt b hb).2,(hn b hb).2,(hn b hb).1,?_⟩;obtain⟨_,(⟨e,_⟩|⟨g,cap,cur,e,_,hc,_⟩)⟩:=hr
 ·subst e;simp[Value.ownBlock] at hb
 ·subst e;simp[Value.ownBlock] at hb;subst hb;exact⟨_,hc,trivial⟩
def QY{B:an P}{w:aq5}{H:HV}{Eb:asr}{sz:Nat}{b:Nat}:∀{i:Nat} {l:asv (Ty×mH)} {es:asv MapEntry},PM B w H Eb sz i l es->oj b l es->aeB B w H b
 |_,[],_,_,h=>by simp[oj] at h
 |_,(_,_)::_,[],_,h=>by simp[oj] at h
 |i,(k,e)::l,x::xs,⟨_,he,_,hr⟩,h=>by
  rcases h with h|h
  ·cases e with
   |val τ=>exact h.elim
   |any=>exact h.elim
   |buf l=>exact mU he h
  ·exact QY hr h
def Ap{sz:Nat}{mG:asv (Ty×mH)}(h:I5 B w H Eb sz mG v)(hb:wy w mG v b):aeB B w H b:=by
 obtain⟨r,es,e,hr,hn,hm,ho,hs⟩:=h;subst e;rcases hb with hb|⟨r',ye,e',Ma,hb⟩
 ·cases hb;exact⟨lt_of_heap hr,hm,hn,_,hr,trivial⟩
 ·cases e';rw[hr] at Ma;cases Ma;exact QY ho hb
def aci:∀{p:mc},p.holds B a w H v->p.owns w v b->aeB B w H b
 | .val _,_,h=>h.elim
 | .any _ _,_,h=>h.elim
 | .sm _,_,h=>h.elim
 | .buf _ _ _,k,h=>mU k h
 | .map _ _ _ _ _,k,h=>Ap k h
def oT{p:mc}{rest:asv aq6}(h:Shape p.n p.agg v):KA p.agg ((v.cells.toList++rest).take p.n).toArray=v/\(v.cells.toList++rest).drop p.n=rest:=by
 have hs:=h.size;constructor
 ·have:(List.take p.n<|v.cells.toList++rest).toArray=v.cells:=by
   rw[<-hs,<-gN,MK]
  rw[this];exact h.eq.symm
 ·rw[<-hs,<-gN,FE]
def qC{B:an P}{a:Act}{w:aq5}{H:HV}{b:Nat}:∀{ps:asv mc} {cs:asv aq6},Q1 B a w H ps cs->py w b ps cs->aeB B w H b
 |[],_,_,h=>h.elim
 |p::l,_,⟨v,rest,e,oY,hv,hr⟩,h=>by
  subst e;obtain⟨e1,e2⟩:=oT (rest:=rest) oY;rcases h with h|h
  ·rw[e1] at h;exact aci hv h
  ·rw[e2] at h;exact qC hr h
def bN.mh{B:an P}{a:Act}{w:aq5}{H:HV}{v:aq6}{b:Nat}:∀{s:bN},s.holds B a w H v->s.owns w v b->b<w.heap.size/\H b=none/\∃o,w.heap[b]? =some o/\Ol o
 | .val _,_,h=>h.elim
 | .J3 _,_,h=>h.elim
 | .ptr _ _,_,h=>h.elim
 | .same _,_,h=>h.elim
 | .DK _ _ _,_,h=>h.elim
 | .bpf _ _,_,h=>h.elim
 | .gone,_,h=>h.elim
 | .PL _ _,_,h=>h.elim
 | .vec _ _,_,h=>h.elim
 | .NU _ _,_,h=>h.elim
 | .own T τ,⟨c,x,e,hb,hx,hn,hB⟩,⟨ad,e',h⟩=>by
  subst e;cases e';cases h;exact⟨lt_of_heap hb,hn,_,hb,trivial⟩
 | .buf _ _ _,h,k=>⟨(mU h k).1,(mU h k).2.2⟩
 | .rC T _ ps,⟨c,cs,e,hb,hn,hB,ho,hs,hx⟩,⟨c',e',h⟩=>by
  subst e;cases e';rcases h with h|⟨Bs,jQ,h⟩
  ·subst h;exact⟨lt_of_heap hb,hn,_,hb,trivial⟩
  ·rw[hb] at jQ;cases jQ;exact⟨(qC ho h).1,(qC ho h).2.2⟩
 | .oQ _ _ _ _ _,h,k=>⟨(Ap h k).1,(Ap h k).2.2⟩
 | .EB _ _ _ _,⟨x,e,h⟩,⟨x',i',e',k⟩=>by
  rw[e] at e';cases e';exact⟨(mU h k).1,(mU h k).2.2⟩
 | .opt c s,h,⟨hc,k⟩=>bN.mh (s:=s) (h.1 hc) k
 | .inv I,⟨h,_⟩,k=>I.lt h k
 | .mb l _,⟨h,h2,h3⟩,k=>by
  have k:b=l:=k;subst k;exact⟨lt_of_heap h,h2,_,h,trivial⟩
 | .tn _ _,⟨r,m,es,sn,e,h1,h2,_⟩,⟨ad,e',h⟩=>by
  subst e;cases e';cases h;exact⟨lt_of_heap h1,h2,_,h1,trivial⟩
 | .win _ _ _ _,_,h=>h.elim
 | .J8 _ _ _,_,h=>h.elim
 | .pb _ _ _ _,⟨g,c,cur,xs,e,hb,_,_,hn,_⟩,h=>by
  subst e;cases h;exact⟨lt_of_heap hb,hn,_,hb,trivial⟩
 | .HX _ _ _,⟨c,p,r,e,hb,_,hn,_,ho,_⟩,⟨c',e',h⟩=>by
  subst e;cases e';rcases h with h|⟨p',r',jQ,h⟩
  ·subst h;exact⟨lt_of_heap hb,hn,_,hb,trivial⟩
  ·have e2:=hb.symm.trans jQ;simp at e2;obtain⟨rfl,rfl⟩:=e2;exact⟨(mU ho h).1,(mU ho h).2.2⟩
def IK{sz:Nat}(h:wT B w H E sz l v)(hle:HV.le H H')
 (hk:∀b,v.ownBlock=some b->w'.heap[b]? =w.heap[b]? /\H' b=H b):wT B w' H' E sz l v:=by
 obtain⟨xs,⟨hl,hr⟩,ho,hn⟩:=h;refine⟨xs,⟨hl,?_⟩,tU hle ho,fun b hb=>⟨by rw[(hk b hb).2];exact(hn b hb).1,(hn b hb).2⟩⟩;rcases hr with hr|⟨g,cap,cur,e,h1,hc,h2⟩
 ·exact .inl hr
 ·refine .inr ⟨g,cap,cur,e,h1,?_,h2⟩;rw[(hk g (by rw[e];rfl)).1];exact hc
def Sk{B:an P}{w w':aq5}{H H':HV}{Eb:asr}{sz:Nat}(hle:HV.le H H'):∀{i:Nat} {l:asv (Ty×mH)} {es:asv MapEntry},PM B w H Eb sz i l es->
  (∀b,oj b l es->w'.heap[b]? =w.heap[b]? /\H' b=H b)->PM B w' H' Eb sz i l es
 |_,[],[],_,_=>trivial
 |_,[],_::_,h,_=>h.elim
 |_,(_,_)::_,[],h,_=>h.elim
 |i,(k,e)::l,x::xs,⟨hk,he,hb,hr⟩,hx=>by
  refine⟨k.mono hle hk,?_,hb,Sk hle hr fun b h=>hx b<| .inr h⟩;cases e with
  |val τ=>exact τ.mono hle he
  |any=>trivial
  |buf l=>exact IK he hle fun b h=>hx b<| .inl h
def Yt{sz:Nat}{mG:asv (Ty×mH)}(h:I5 B w H Eb sz mG v)(hle:HV.le H H')
 (hk:∀b,wy w mG v b->w'.heap[b]? =w.heap[b]? /\H' b=H b):I5 B w' H' Eb sz mG v/\∀b,wy w' mG v b↔wy w mG v b:=by
 obtain⟨r,es,e,hr,hn,hm,ho,hs⟩:=h;subst e;have k0:=hk r<| .inl rfl
 have Ma:w'.heap[r]? =some (.map es es.size):=by rw[k0.1];exact hr
 refine⟨⟨r,es,rfl,Ma,by rw[k0.2];exact hn,hm,Sk hle ho fun b h=>hk b<| .inr ⟨r,es,rfl,hr,h⟩,hs⟩,fun b=>?_⟩;constructor
 ·rintro(h|⟨r1,es1,e1,h1,h2⟩)
  ·exact .inl h
  ·cases e1;rw[Ma] at h1;cases h1;exact .inr ⟨r,es,rfl,hr,h2⟩
 ·rintro(h|⟨r1,es1,e1,h1,h2⟩)
  ·exact .inl h
  ·cases e1;rw[hr] at h1;cases h1;exact .inr ⟨r,es,rfl,Ma,h2⟩
def acj(hle:HV.le H H'):∀{p:mc},p.holds B a w H v->(∀b,p.owns w v b->w'.heap[b]? =w.heap[b]? /\H' b=H b)->
  p.holds B a w' H' v/\∀b,p.owns w' v b↔p.owns w v b
 | .val τ,h,_=>⟨τ.mono hle h,fun _=>Iff.rfl⟩
 | .any _ _,h,_=>⟨h,fun _=>Iff.rfl⟩
 | .sm _,h,_=>⟨h,fun _=>Iff.rfl⟩
 | .buf _ _ _,h,k=>⟨IK h hle k,fun _=>Iff.rfl⟩
 | .map _ _ _ _ _,h,k=>Yt h hle k
def Sh{B:an P}{a:Act}{w w':aq5}{H H':HV}(hle:HV.le H H'):∀{ps:asv mc} {cs:asv aq6},Q1 B a w H ps cs->(∀b,py w b ps cs->w'.heap[b]? =w.heap[b]? /\H' b=H b)->
  Q1 B a w' H' ps cs/\(∀b,py w' b ps cs↔py w b ps cs)/\(L0 w ps cs->L0 w' ps cs)
 |[],_,h,_=>⟨h,fun _=>Iff.rfl,fun h=>h⟩
 |p::l,_,⟨v,rest,e,oY,hv,hr⟩,k=>by
  subst e;obtain⟨e1,e2⟩:=oT (rest:=rest) oY;simp only[py,L0,e1,e2] at k⊢;obtain⟨h1,h2⟩:=acj hle hv fun b h=>k b<| .inl h
  obtain⟨h3,h4,h5⟩:=Sh hle hr fun b h=>k b<| .inr h
  refine⟨⟨v,rest,rfl,oY,h1,h3⟩,fun b=>or_congr (h2 b)<|h4 b,fun⟨a1,a2⟩=>⟨fun b hb=>?_,h5 a2⟩⟩;rw[h4];exact a1 b<|(h2 b).1 hb
def bN.jD:bN->Bool
 | .inv _=>true
 | .opt _ s=>s.jD
 |_=>false
def bN.v8{B:an P}{a:Act}{w w':aq5}{H H':HV}{v:aq6}{n:Nat}:∀{s:bN},s.holds B a w H v->(s.jD=true->n=B.lo)->Far n (fun b=>s.owns w v b) w H w' H'->s.holds B a w' H' v/\∀b,s.owns w' v b↔s.owns w v b
 | .val τ,h,_,F=>⟨τ.mono F.le h,fun _=>Iff.rfl⟩
 | .J3 _,⟨vs,e,k⟩,_,F=>⟨⟨vs,e,Ez F.le k⟩,fun _=>Iff.rfl⟩
 | .own T τ,⟨b,x,e,hb,hx,hn,hB⟩,_,F=>by
  subst e;have hlt:=lt_of_heap hb;have ho:(bN.own T τ).owns w (.pointer<|some ⟨b,0,none⟩) b:=⟨_,rfl,rfl⟩;exact⟨⟨b,x,rfl,by rw[F.lr b hlt<| .inr ho];exact hb,τ.mono F.le hx,by rw[F.view b hlt<| .inr ho];exact hn,hB⟩,fun _=>Iff.rfl⟩
 | .ptr _ _,h,_,_=>⟨h,fun _=>Iff.rfl⟩
 | .opt c s,h,hi,F=>by
  cases c with
  |false=>exact⟨⟨(fun e=>by cases e),h.2⟩,fun b=>by simp[bN.owns]⟩
  |true=>
   obtain⟨h1,h2⟩:=v8 (s:=s) (h.1 rfl) hi<|F.imp (bG _) fun b hb=>⟨rfl,hb⟩
   exact⟨⟨fun _=>h1,h.2⟩,fun b=>by simp only[bN.owns,h2]⟩
 | .same _,h,_,_=>⟨h,fun _=>Iff.rfl⟩
 | .DK _ _ _,h,_,_=>⟨h,fun _=>Iff.rfl⟩
 | .bpf _ _,h,_,_=>⟨h,fun _=>Iff.rfl⟩
 | .gone,h,_,_=>⟨h,fun _=>Iff.rfl⟩
 | .PL _ _,h,_,_=>⟨h,fun _=>Iff.rfl⟩
 | .vec _ _,h,_,_=>⟨h,fun _=>Iff.rfl⟩
 | .NU _ _,h,_,_=>⟨h,fun _=>Iff.rfl⟩
 | .buf _ _ _,h,_,F=>⟨IK h F.le fun b hb=>⟨F.lr b (mU h hb).1<| .inr hb,F.view b (mU h hb).1<| .inr hb⟩,fun _=>Iff.rfl⟩
 | .rC T g ps,⟨c,cs,e,hb,hn,hB,ho,hs,hx⟩,_,F=>by
  subst e;have hlt:=lt_of_heap hb;have oc:(bN.rC T g ps).owns w (.pointer<|some ⟨c,0,none⟩) c:=⟨c,rfl,.inl rfl⟩;have op:∀b,py w b ps cs.toList->(bN.rC T g ps).owns w (.pointer<|some ⟨c,0,none⟩) b:=fun b h=>⟨c,rfl,.inr ⟨cs,hb,h⟩⟩
  have jQ:w'.heap[c]? =some (.cells cs T (0,0)):=by rw[F.lr c hlt<| .inr oc];exact hb
  obtain⟨h1,h2,h3⟩:=Sh F.le ho fun b h=>⟨F.lr b (qC ho h).1<| .inr<|op b h,F.view b (qC ho h).1<| .inr<|op b h⟩
  refine⟨⟨c,cs,rfl,jQ,by rw[F.view c hlt<| .inr oc];exact hn,hB,h1,h3 hs,by rw[h2];exact hx⟩,fun b=>?_⟩;constructor
  ·rintro⟨c',e',h⟩;cases e';rcases h with h|⟨Bs,AL,h⟩
   ·exact⟨c,rfl,.inl h⟩
   ·rw[jQ] at AL;cases AL;exact⟨c,rfl,.inr ⟨cs,hb,(h2 b).1 h⟩⟩
  ·rintro⟨c',e',h⟩;cases e';rcases h with h|⟨Bs,AL,h⟩
   ·exact⟨c,rfl,.inl h⟩
   ·rw[hb] at AL;cases AL;exact⟨c,rfl,.inr ⟨cs,jQ,(h2 b).2 h⟩⟩
 | .oQ _ _ _ _ _,h,_,F=>Yt h F.le fun b hb=>⟨F.lr b (Ap h hb).1<| .inr hb,F.view b (Ap h hb).1<| .inr hb⟩
 | .EB _ _ _ _,⟨x,e,h⟩,_,F=>by
  subst e;exact⟨⟨x,rfl,IK h F.le fun b hb=>⟨F.lr b (mU h hb).1<| .inr ⟨x,_,rfl,hb⟩,F.view b (mU h hb).1<| .inr ⟨x,_,rfl,hb⟩⟩⟩,fun _=>Iff.rfl⟩
 | .mb l rc,⟨h,h2,h3⟩,_,F=>⟨⟨by rw[F.lr l (lt_of_heap h)<| .inr rfl];exact h,by rw[F.view l (lt_of_heap h)<| .inr rfl];exact h2,h3⟩,fun _=>Iff.rfl⟩
 | .tn L seen,⟨r,m,es,sn,e,h1,h2,h3,h4,h5,h6⟩,_,F=>by
  subst e;have ho:(bN.tn L seen).owns w (.pointer<|some ⟨r,0,none⟩) r:=⟨_,rfl,rfl⟩;exact⟨⟨r,m,es,sn,rfl,by rw[F.lr r (lt_of_heap h1)<| .inr ho];exact h1,by rw[F.view r (lt_of_heap h1)<| .inr ho];exact h2,h3,F.le _ _ h4,Oy F.le h5,h6⟩,fun _=>Iff.rfl⟩
 | .win _ _ _ _,h,_,_=>⟨h,fun _=>Iff.rfl⟩
 | .J8 _ _ _,h,_,_=>⟨h,fun _=>Iff.rfl⟩
 | .pb E pre post l,⟨g,c,cur,xs,e,hb,hc,ho,hn,hB⟩,_,F=>by
  subst e;have oc:(bN.pb E pre post l).owns w (.slice (some ⟨g,pre.length,none⟩) l.length c) g:=rfl;exact⟨⟨g,c,cur,xs,rfl,by rw[F.lr g (lt_of_heap hb)<| .inr oc];exact hb,hc,tU F.le ho,by rw[F.view g (lt_of_heap hb)<| .inr oc];exact hn,hB⟩,fun _=>Iff.rfl⟩
 | .HX T E l,⟨c,p,r,e,hb,hp,hn,hB,ho,hx⟩,_,F=>by
  subst e;have hlt:=lt_of_heap hb;have oc:(bN.HX T E l).owns w (.pointer<|some ⟨c,0,none⟩) c:=⟨c,rfl,.inl rfl⟩;have op:∀b,r.ownBlock=some b->(bN.HX T E l).owns w (.pointer<|some ⟨c,0,none⟩) b:=fun b h=>⟨c,rfl,.inr ⟨p,r,hb,h⟩⟩
  have jQ:w'.heap[c]? =some (.cells #[p,r] T (0,0)):=by rw[F.lr c hlt<| .inr oc];exact hb
  have h1:=IK ho F.le fun b h=>⟨F.lr b (mU ho h).1<| .inr<|op b h,F.view b (mU ho h).1<| .inr<|op b h⟩
  refine⟨⟨c,p,r,rfl,jQ,hp,by rw[F.view c hlt<| .inr oc];exact hn,hB,h1,hx⟩,fun b=>?_⟩;constructor
  ·rintro⟨c',e',h⟩;cases e';rcases h with h|⟨p',r',AL,h⟩
   ·exact⟨c,rfl,.inl h⟩
   ·exact⟨c,rfl,.inr ⟨p',r',by rw[hb,<-jQ];exact AL,h⟩⟩
  ·rintro⟨c',e',h⟩;cases e';rcases h with h|⟨p',r',AL,h⟩
   ·exact⟨c,rfl,.inl h⟩
   ·exact⟨c,rfl,.inr ⟨p',r',by rw[jQ,<-hb];exact AL,h⟩⟩
 | .inv I,⟨h,e⟩,hi,F=>by
  have:n=I.n:=by rw[hi rfl,e]
  exact⟨⟨I.step h<|this▸F,e⟩,fun _=>Iff.rfl⟩
def bN.B2{s:bN}(h:s.holds B a w H v)(F:Far B.lo (fun b=>s.owns w v b) w H w' H'):s.holds B a w' H' v/\∀b,s.owns w' v b↔s.owns w v b:=
 bN.v8 h (fun _=>rfl) F
def bN.aaA(he:Ext w H w' H'){s:bN}(h:s.holds B a w H v):s.holds B a w' H' v:=(bN.B2 h<|he.VV _ _).1
def bN.IS(he:Ext w H w' H'){s:bN}(h:s.holds B a w H v)(b:Nat):s.owns w' v b↔s.owns w v b:=(bN.B2 h<|he.VV _ _).2 b
def l6{t:Nat}(h:d≠t):aX (a.put (some d) v) t=aX a t:=by
 simp[aX,Act.put,Array.getElem?_setIfInBounds_ne h]
def tw(h:d<a.tmps.size):aX (a.put (some d) v) d=v:=by
 simp[aX,Act.put,h]
def Cu{B:an P}{a a':Act}{w:aq5}{H:HV}:∀{ps:asv mc} {cs:asv aq6},(∀t∈Iu ps,aX a' t=aX a t)->Q1 B a w H ps cs->Q1 B a' w H ps cs
 |[],_,_,h=>h
 |p::l,_,e,⟨v,rest,e1,oY,hv,hr⟩=>by
  cases p with
  |sm u=>exact⟨v,rest,e1,oY,⟨by rw[e u (by simp[Iu])];exact hv.1,hv.2⟩,Cu (fun t ht=>e t (by simp[Iu,ht])) hr⟩
  |val _=>exact⟨v,rest,e1,oY,hv,Cu e hr⟩
  |any _ _=>exact⟨v,rest,e1,oY,hv,Cu e hr⟩
  |buf _ _ _=>exact⟨v,rest,e1,oY,hv,Cu e hr⟩
  |map _ _ _ _ _=>exact⟨v,rest,e1,oY,hv,Cu e hr⟩
def bN.o9{B:an P}{a a':Act}{w:aq5}{H:HV}{v:aq6}:∀{s:bN},(∀t∈s.bO,aX a' t=aX a t)->s.holds B a w H v->s.holds B a' w H v
 | .val _,_,h=>h
 | .J3 _,_,h=>h
 | .own _ _,_,h=>h
 | .ptr t off,e,⟨b,h1,h2⟩=>⟨b,by rw[e t (by simp[bN.bO])];exact h1,h2⟩
 | .opt c s,e,h=>⟨fun hc=>o9 (s:=s) e<|h.1 hc,h.2⟩
 | .same t,e,h=>by show v=_;rw[e t (by simp[bN.bO])];exact h
 | .DK t _ _,e,⟨b,len,cap,h1,h2⟩=>⟨b,len,cap,by rw[e t (by simp[bN.bO])];exact h1,h2⟩
 | .bpf t _,e,⟨b,len,cap,h1,h2⟩=>⟨b,len,cap,by rw[e t (by simp[bN.bO])];exact h1,h2⟩
 | .gone,_,h=>h
 | .buf _ _ _,_,h=>h
 | .rC _ _ _,e,⟨c,cs,h1,h2,h3,h4,h5,h6⟩=>⟨c,cs,h1,h2,h3,h4,Cu e h5,h6⟩
 | .oQ _ _ _ _ _,_,h=>h
 | .EB _ _ _ _,_,h=>h
 | .inv _,_,h=>h
 | .NU t i,e,⟨x,h⟩=>⟨x,by rw[e t (by simp[bN.bO])];exact h⟩
 | .vec k us,e,h=>by
  have:us.map (aX a')=us.map (aX a):=List.map_congr_left e;show v=abH a' k us;rw[show abH a' k us=abH a k us by simp only[abH,this]];exact h
 | .PL t _,e,h=>by show aX a' t=_;rw[e t (by simp[bN.bO])];exact h
 | .mb _ _,_,h=>h
 | .tn _ _,_,h=>h
 | .HX _ _ _,_,h=>h
 | .pb _ _ _ _,_,h=>h
 | .win t _ _ _,e,⟨g,len,cap,c,h1,h2⟩=>⟨g,len,cap,c,by rw[e t (by simp[bN.bO])];exact h1,h2⟩
 | .J8 t _ _,e,⟨g,o,n,c,h1,h2⟩=>⟨g,o,n,c,by rw[e t (by simp[bN.bO])];exact h1,h2⟩
def nF(d:Nat)(Γ:Ctx):Bool:=Γ.all fun p=>p.1 !=d&& !p.2.bO.contains d
def xg{A:Ctx}(h:nF d A=true):∀p∈A,p.1≠d/\d∉p.2.bO:=by
 intro p hp;have:=dC.1 h p hp;simpa using this
def put_defers{d:auz Tmp}:(a.put d v).defers=a.defers:=by cases d<;>rfl
def Lg{Γ:Ctx}(h:Sat w0 H0 N Γ a w H){s:bN}(hd:d<N)(hf:nF d Γ=true)(hl:d∉s.bO)
 (hs:s.holds w0 a w H v)(hfr:∀b,s.owns w v b->∀q∈Γ,¬q.2.owns w (aX a q.1) b):Sat w0 H0 N ((d,s)::Γ) (a.put (some d) v) w H:=by
 have hd':d<a.tmps.size:=h.sz▸hd;have tu:∀p∈Γ,d≠p.1/\d∉p.2.bO:=fun p hp=>⟨fun e=>(xg hf p hp).1 e.symm,(xg hf p hp).2⟩
 refine⟨by rw[put_defers];exact h.nd,by simp[Act.put,h.sz],h.below,h.J4,h.sub,?_,?_,h.gl⟩
 ·intro p hp;rcases bP.1 hp with e|hp
  ·subst e;simp only[tw hd'];exact bN.o9 (fun t ht=>l6<|fun e=>hl<|e▸ht) hs
  ·obtain⟨h1,h2⟩:=tu p hp;rw[l6 h1];exact bN.o9 (fun t ht=>l6<|fun e=>h2<|e▸ht)<|h.holds p hp
 ·intro p hp q hq hne b hb jQ;rcases bP.1 hp with e|hp<;>rcases bP.1 hq with e'|hq
  ·subst e;subst e';exact hne rfl
  ·subst e;simp only[tw hd'] at hb;rw[l6 (tu q hq).1] at jQ;exact hfr b hb q hq jQ
  ·subst e';simp only[tw hd'] at jQ;rw[l6 (tu p hp).1] at hb;exact hfr b jQ p hp hb
  ·rw[l6 (tu p hp).1] at hb;rw[l6 (tu q hq).1] at jQ;exact h.sep p hp q hq hne b hb jQ
def El{Γ:Ctx}(h:Sat w0 H0 N Γ a w H)(he:Ext w H w' H'):Sat w0 H0 N Γ a w' H':=by
 refine⟨h.nd.kept fun D _ h1 h2=>⟨by rw[he.below.block D<|lt_of_heap h1];exact h1,by rw[he.J4 D<|lt_of_heap h1];exact h2⟩,h.sz,h.below.step he.below,fun hv r hr hx=>?_,he.sub,?_,?_,h.gl.mono he.le⟩
 ·rw[he.J4 r<|oF hr h.below.size,h.J4 hv r hr hx]
 ·intro p hp;exact bN.aaA he<|h.holds p hp
 ·intro p hp q hq hne b hb jQ;exact h.sep p hp q hq hne b ((bN.IS he (h.holds p hp) b).1 hb)<|(bN.IS he (h.holds q hq) b).1 jQ
def wu{Γ:Ctx}(h:Sat w0 H0 N Γ a w H)(he:Ext w H w' H')
 {s:bN}(hd:d<N)(hf:nF d Γ=true)(hl:d∉s.bO)(hs:s.holds w0 a w' H' v)(hfr:∀b,s.owns w' v b->w.heap.size<=b):
  Sat w0 H0 N ((d,s)::Γ) (a.put (some d) v) w' H':=
 Lg (El h he) hd hf hl hs fun b hb q hq jQ=>by
  have h1:=hfr b hb;have h2:=(bN.mh (h.holds q hq)<|(bN.IS he (h.holds q hq) b).1 jQ).1;omega
def bN.free:bN->Bool
 | .own _ _=>false
 | .buf _ _ _=>false
 | .opt _ s=>s.free
 | .rC _ _ _=>false
 | .oQ _ _ _ _ _=>false
 | .EB _ _ _ _=>false
 | .inv _=>false
 | .mb _ _=>false
 | .tn _ _=>false
 | .HX _ _ _=>false
 | .pb _ _ _ _=>false
 |_=>true
def bN.free_spec{w:aq5}{v:aq6}{b:Nat}:∀{s:bN},s.free=true-> ¬s.owns w v b
 | .val _,_,h=>h
 | .J3 _,_,h=>h
 | .ptr _ _,_,h=>h
 | .same _,_,h=>h
 | .DK _ _ _,_,h=>h
 | .bpf _ _,_,h=>h
 | .gone,_,h=>h
 | .PL _ _,_,h=>h
 | .vec _ _,_,h=>h
 | .NU _ _,_,h=>h
 | .opt c s,e,h=>bN.free_spec (s:=s) e h.2
 | .own _ _,e,_=>by cases e
 | .buf _ _ _,e,_=>by cases e
 | .rC _ _ _,e,_=>by cases e
 | .oQ _ _ _ _ _,e,_=>by cases e
 | .EB _ _ _ _,e,_=>by cases e
 | .inv _,e,_=>by cases e
 | .mb _ _,e,_=>by cases e
 | .tn _ _,e,_=>by cases e
 | .HX _ _ _,e,_=>by cases e
 | .pb _ _ _ _,e,_=>by cases e
 | .win _ _ _ _,_,h=>h
 | .J8 _ _ _,_,h=>h
def BJ{Γ ay:Ctx}{ds:asv Deferred}(hs:Sat w0 H0 N Γ a w H)(hk:Kept w0 w')(YT:HU w w')
 (hold:w0.Qa=false->∀r,r<w0.n-> ¬w0.X r->H' r=H r)(hsz:w.heap.size<=w'.heap.size)(hle:HV.le H H')(bY:∀r o,H' r=some o->w'.heap[r]? =some o)
 (GV:(∃p∈ay,p.2.jD=true)->∀b,b<w.heap.size->b<w0.lo->w'.heap[b]? =w.heap[b]? /\H' b=H b)
 (hp:∀p∈ay,p∈Γ/\∀b,p.2.owns w (aX a p.1) b->w'.heap[b]? =w.heap[b]? /\H' b=H b)(hm:Marks w0 w' H' (ds++w0.ds)):Sat w0 H0 N ay {a with defers:=ds} w' H':=by
 have VV:∀p∈ay,Far (if p.2.jD then w0.lo else 0) (fun b=>p.2.owns w (aX a p.1) b) w H w' H':=fun p h=>by
  have key:∀b,b<w.heap.size->(b<(if p.2.jD then w0.lo else 0)\/p.2.owns w (aX a p.1) b)->w'.heap[b]? =w.heap[b]? /\H' b=H b:=fun b hb h1=>by
   rcases h1 with h1|h1
   ·cases hi:p.2.jD with
    |true=>rw[hi,if_pos rfl] at h1;exact GV ⟨p,h,hi⟩ b hb h1
    |false=>rw[hi] at h1;simp at h1
   ·exact(hp p h).2 b h1
  exact⟨hsz,hk.os.trans hs.below.os.symm,hk.tape.trans hs.below.tape.symm,hk.output.trans hs.below.output.symm,YT,hle,fun b hb h1=>(key b hb h1).1,fun b hb h1=>(key b hb h1).2,bY⟩
 have hh:∀p∈ay,p.2.holds w0 a w' H' (aX a p.1)/\∀b,p.2.owns w' (aX a p.1) b↔p.2.owns w (aX a p.1) b:=fun p h=>bN.v8 (hs.holds p (hp p h).1) (fun hi=>by rw[hi];rfl)<|VV p h
 refine⟨hm,hs.sz,hk,fun hv r hr hx=>(hold hv r hr hx).trans<|hs.J4 hv r hr hx,bY,?_,?_,hs.gl.mono hle⟩
 ·exact fun p h=>bN.o9 (a:=a) (fun _ _=>rfl) (hh p h).1
 ·exact fun p h q h' hne b hb jQ=>hs.sep p (hp p h).1 q (hp q h').1 hne b (((hh p h).2 b).1 hb)<|((hh q h').2 b).1 jQ
def Et{sz:Nat}(h:wT B w H E sz l v)(hm:∀b,v.ownBlock=some b->B'.mY b):wT B' w H E sz l v:=by
 obtain⟨xs,h1,h2,h3⟩:=h;exact⟨xs,h1,h2,fun b hb=>⟨(h3 b hb).1,hm b hb⟩⟩
def UA{B B':an P}{w:aq5}{H:HV}{Eb:asr}{sz:Nat}:∀{i:Nat} {l:asv (Ty×mH)} {es:asv MapEntry},PM B w H Eb sz i l es->(∀b,oj b l es->B'.mY b)->PM B' w H Eb sz i l es
 |_,[],[],_,_=>trivial
 |_,[],_::_,h,_=>h.elim
 |_,(_,_)::_,[],h,_=>h.elim
 |i,(k,e)::l,x::xs,⟨hk,he,hb,hr⟩,hx=>by
  refine⟨hk,?_,hb,UA hr fun b h=>hx b<| .inr h⟩;cases e with
  |val τ=>exact he
  |any=>trivial
  |buf l=>exact Et he fun b h=>hx b<| .inl h
def UI{sz:Nat}{mG:asv (Ty×mH)}(h:I5 B w H Eb sz mG v)(hm:∀b,wy w mG v b->B'.mY b):I5 B' w H Eb sz mG v:=by
 obtain⟨r,es,e,hr,hn,_,ho,hs⟩:=h;subst e;exact⟨r,es,rfl,hr,hn,hm r<| .inl rfl,UA ho fun b h=>hm b<| .inr ⟨r,es,rfl,hr,h⟩,hs⟩
def Uy{B B':an P}{a:Act}{w:aq5}{H:HV}:∀{ps:asv mc} {cs:asv aq6},Q1 B a w H ps cs->(∀b,py w b ps cs->B'.mY b)->Q1 B' a w H ps cs
 |[],_,h,_=>h
 |p::l,_,⟨v,rest,e,oY,hv,hr⟩,k=>by
  subst e;obtain⟨e1,e2⟩:=oT (rest:=rest) oY;simp only[py,e1,e2] at k;refine⟨v,rest,rfl,oY,?_,Uy hr fun b h=>k b<| .inr h⟩;cases p with
  |val _=>exact hv
  |any _ _=>exact hv
  |sm _=>exact hv
  |buf _ _ _=>exact Et hv fun b h=>k b<| .inl h
  |map _ _ _ _ _=>exact UI hv fun b h=>k b<| .inl h
def bN.qe{B B':an P}{a:Act}{w:aq5}{H:HV}{v:aq6}:∀{s:bN},s.jD=false->s.holds B a w H v->(∀b,s.owns w v b->B'.mY b)->s.holds B' a w H v
 | .val _,_,h,_=>h
 | .J3 _,_,h,_=>h
 | .own _ _,_,⟨b,x,e,h1,h2,h3,_⟩,k=>⟨b,x,e,h1,h2,h3,k b ⟨_,e,rfl⟩⟩
 | .ptr _ _,_,h,_=>h
 | .opt c s,hi,h,k=>⟨fun hc=>bN.qe (s:=s) hi (h.1 hc) fun b hb=>k b ⟨hc,hb⟩,h.2⟩
 | .same _,_,h,_=>h
 | .DK _ _ _,_,h,_=>h
 | .bpf _ _,_,h,_=>h
 | .gone,_,h,_=>h
 | .buf _ _ _,_,h,k=>Et h k
 | .rC _ _ _,_,⟨c,cs,e,hb,hn,_,ho,hs,hx⟩,k=>⟨c,cs,e,hb,hn,k c ⟨c,e,.inl rfl⟩,Uy ho fun b h=>k b ⟨c,e,.inr ⟨cs,hb,h⟩⟩,hs,hx⟩
 | .oQ _ _ _ _ _,_,h,k=>UI h k
 | .EB _ _ _ _,_,⟨x,e,h⟩,k=>⟨x,e,Et h fun b hb=>k b ⟨x,_,e,hb⟩⟩
 | .inv _,hi,_,_=>by cases hi
 | .PL _ _,_,h,_=>h
 | .vec _ _,_,h,_=>h
 | .NU _ _,_,h,_=>h
 | .mb l _,_,⟨h1,h2,_⟩,k=>⟨h1,h2,k l rfl⟩
 | .tn _ _,_,⟨r,m,es,sn,e,h1,h2,_,h4⟩,k=>⟨r,m,es,sn,e,h1,h2,k r ⟨_,e,rfl⟩,h4⟩
 | .win _ _ _ _,_,h,_=>h
 | .J8 _ _ _,_,h,_=>h
 | .pb _ _ _ _,_,⟨g,c,cur,xs,e,hb,hc,ho,hn,_⟩,k=>⟨g,c,cur,xs,e,hb,hc,ho,hn,k g (by rw[e];rfl)⟩
 | .HX _ _ _,_,⟨c,p,r,e,hb,hp,hn,_,ho,hx⟩,k=>⟨c,p,r,e,hb,hp,hn,k c ⟨c,e,.inl rfl⟩,Et ho fun b h=>k b ⟨c,e,.inr ⟨p,r,hb,h⟩⟩,hx⟩
def bN.rN{B:an P}{a:Act}{w:aq5}{H:HV}{v:aq6}{b:Nat}:∀{s:bN},s.jD=false->s.holds B a w H v->s.owns w v b->B.mY b
 | .val _,_,_,h=>h.elim
 | .J3 _,_,_,h=>h.elim
 | .ptr _ _,_,_,h=>h.elim
 | .same _,_,_,h=>h.elim
 | .DK _ _ _,_,_,h=>h.elim
 | .bpf _ _,_,_,h=>h.elim
 | .gone,_,_,h=>h.elim
 | .PL _ _,_,_,h=>h.elim
 | .vec _ _,_,_,h=>h.elim
 | .NU _ _,_,_,h=>h.elim
 | .own T τ,_,⟨c,x,e,hb,hx,hn,hB⟩,⟨ad,e',h⟩=>by
  subst e;cases e';cases h;exact hB
 | .buf _ _ _,_,h,k=>(mU h k).2.1
 | .rC T _ ps,_,⟨c,cs,e,hb,hn,hB,ho,hs,hx⟩,⟨c',e',h⟩=>by
  subst e;cases e';rcases h with h|⟨Bs,jQ,h⟩
  ·subst h;exact hB
  ·rw[hb] at jQ;cases jQ;exact(qC ho h).2.1
 | .oQ _ _ _ _ _,_,h,k=>(Ap h k).2.1
 | .EB _ _ _ _,_,⟨x,e,h⟩,⟨x',i',e',k⟩=>by
  rw[e] at e';cases e';exact(mU h k).2.1
 | .opt c s,hi,h,⟨hc,k⟩=>bN.rN (s:=s) hi (h.1 hc) k
 | .inv _,hi,_,_=>by cases hi
 | .mb l _,_,⟨_,_,h3⟩,k=>by
  have k:b=l:=k;subst k;exact h3
 | .tn _ _,_,⟨r,m,es,sn,e,_,_,h3,_⟩,⟨ad,e',h⟩=>by
  subst e;cases e';cases h;exact h3
 | .win _ _ _ _,_,_,h=>h.elim
 | .J8 _ _ _,_,_,h=>h.elim
 | .pb _ _ _ _,_,⟨g,c,cur,xs,e,hb,_,_,hn,hB⟩,h=>by
  subst e;cases h;exact hB
 | .HX _ _ _,_,⟨c,p,r,e,hb,_,_,hB,ho,_⟩,⟨c',e',h⟩=>by
  subst e;cases e';rcases h with h|⟨p',r',jQ,h⟩
  ·subst h;exact hB
  ·have e2:=hb.symm.trans jQ;simp at e2;obtain⟨rfl,rfl⟩:=e2;exact(mU ho h).2.1
end
section
variable[D:DR]
variable{d:Nat}
def look:Ctx->Nat->auz bN
 |[],_=>none
 |(k,s)::Γ,t=>match Nat.beq k t with
  |true=>some s
  |false=>look Γ t
def az:∀{Γ:Ctx} {t:Nat} {s:bN},look Γ t=some s->(t,s)∈Γ
 |[],_,_,h=>by simp[look] at h
 |(k,s')::Γ,t,s,h=>by
  simp only[look] at h;cases hb:Nat.beq k t
  ·rw[hb] at h;exact fY _<|az h
  ·rw[hb] at h;have:=fX hb;simp at h;subst this;subst h;simp
def bN.uz(s:bN)(d:Nat):Bool:=s.bO.any fun t=>Nat.beq t d
def CW{s:bN}(h:s.uz d=false):d∉s.bO:=fun hm=>by
 have:=List.any_eq_false.1 h d hm;simp at this
def WB{s:bN}(h:d∉s.bO):s.uz d=false:=by
 refine List.any_eq_false.2 fun t ht=>?_
 simp only[Bool.not_eq_true];cases hb:Nat.beq t d
 ·rfl
 ·exact absurd (fX hb▸ht) h
def del(d:Nat):Ctx->Ctx
 |[]=>[]
 |p::Γ=>bif Nat.beq p.1 d||p.2.uz d then del d Γ else p::del d Γ
def lh{d:Nat}:∀{Γ:Ctx},∀p∈del d Γ,p∈Γ
 |[],p,h=>by simp[del] at h
 |q::Γ,p,h=>by
  simp only[del] at h;cases hb:(Nat.beq q.1 d||q.2.uz d)
  ·rw[hb] at h;rcases bP.1 h with e|h
   ·simp[e]
   ·exact fY _<|lh p h
  ·rw[hb] at h;exact fY _<|lh p h
def qk{d:Nat}:∀{Γ:Ctx},nF d (del d Γ)=true
 |[]=>rfl
 |q::Γ=>by
  simp only[del];cases hb:(Nat.beq q.1 d||q.2.uz d)
  ·simp only[fA];have ih:=qk (d:=d) (Γ:=Γ);simp only[nF,sE,cW] at ih⊢;refine⟨?_,ih⟩;simp at hb;refine⟨by simpa using Nat.ne_of_beq_eq_false hb.1,?_⟩;simpa using CW hb.2
  ·simpa using qk (d:=d) (Γ:=Γ)
inductive vi(Γ:Ctx):asv Nat->Ctx->Prop where
 |nil:vi Γ [] []
 |cons {t:Nat} {s:bN} {ts:asv Nat} {ay:Ctx} (h:look Γ t=some s) (r:vi Γ ts ay):vi Γ (t::ts) ((t,s)::ay)
def vi.sub{Γ:Ctx}{ts:asv Nat}{ay:Ctx}(h:vi Γ ts ay):∀p∈ay,p∈Γ:=by
 induction h with
 |nil=>simp
 |cons h _ ih=>
  intro p hp;rcases bP.1 hp with e|hp
  ·subst e;exact az h
  ·exact ih p hp
def vi.keys{Γ:Ctx}{ts:asv Nat}{ay:Ctx}(h:vi Γ ts ay):∀p∈ay,p.1∈ts:=by
 induction h with
 |nil=>simp
 |cons h _ ih=>
  intro p hp;rcases bP.1 hp with e|hp
  ·subst e;simp
  ·exact fY _<|ih p hp
def bK(P:ast)(Γ:Ctx)(o:Oper)(s:bN):Prop:=
 ∀(w0:an P) (H0:HV) (N:Nat) (a:Act) (w:aq5) (H:HV),Sat w0 H0 N Γ a w H->∀(K:Act->aq5->Prop) (Q:Exit->Act->aq5->Prop),
  (∀v w' H',Ext w H w' H'->s.holds w0 a w' H' v->(∀b,s.owns w' v b->w.heap.size<=b)->K (a.put o.dst v) w')->o.wp P a w K Q
def Step(P:ast)(N:Nat)(ops:auA Oper)(o:Oper)(Γ ay:Ctx):Prop:=
 ∀(w0:an P) (H0:HV) (a:Act) (w:aq5) (H:HV),Sat w0 H0 N Γ a w H->∀(K:Act->aq5->Prop) (Q:Exit->Act->aq5->Prop),
  (∀a' w' H',Sat w0 H0 N ay a' w' H'->K a' w')->if Region.wanted o (yielded ops a.tmps) then o.wp P a w K Q else K (a.put o.dst undef) w
end
section
variable[D:DR]
variable{P:Program}{N:Nat}{ops:Array Oper}{Γ ay fD uZ:Ctx}
variable{d:Nat}{s:bN}{j dj:Nat}{b:Bool}{H0:HV}{a:Act}{H:HV}{e want:Bool}
def Step.pure{o:Oper}(h:bK P Γ o s)(hg:o.guard=none)(hd:o.dst=some d)(hN:d<N)(hf:nF d Γ=true)(hl:s.uz d=false):
  Step P N ops o Γ ((d,s)::Γ):=by
 intro w0 H0 a w H hs K Q k;simp only[Region.wanted,hg,if_true];refine h w0 H0 N a w H hs K Q fun v w' H' he hv hb=>?_
 rw[hd];exact k _ _ _<|wu hs he hN hf (CW hl) hv hb
def Step.over{o:Oper}(h:bK P Γ o s)(hg:o.guard=none)(hd:o.dst=some d)(hN:d<N)(hl:s.uz d=false):
  Step P N ops o Γ ((d,s)::del d Γ):=by
 intro w0 H0 a w H hs K Q k;simp only[Region.wanted,hg,if_true];refine h w0 H0 N a w H hs K Q fun v w' H' he hv hb=>?_
 rw[hd];exact k _ _ _<|wu (hs.weaken lh) he hN qk (CW hl) hv hb
def gd(b:Bool):Bool->Bool
 |true=>b
 |false=> !b
def VY{w0:an P}{w:aq5}(hs:Sat w0 H0 N Γ a w H)(hj:(ops[j]?).bind (·.dst)=some dj)(hl:look Γ dj=some (.val<|aZ b))(hN:dj<N):
  yielded ops a.tmps j=some b:=by
 have h:=hs.holds _<|az hl
 have h:aX a dj= .bool b:=h;have hlt:dj<a.tmps.size:=hs.sz▸hN;simp only[yielded,hj,Option.bind_some];simp[aX,hlt] at h;simp[hlt,h]
def Zy{o:Oper}{w0:an P}{w:aq5}(hs:Sat w0 H0 N Γ a w H)(hg:o.guard=some (j,want))(hj:(ops[j]?).bind (·.dst)=some dj)(hl:look Γ dj=some (.val<|aZ b))(hN:dj<N):
  Region.wanted o (yielded ops a.tmps)=gd b want:=by
 simp only[Region.wanted,hg,VY hs hj hl hN];cases b<;>cases want<;>rfl
inductive Di(Γ:Ctx)(e:Bool):Ctx->Prop where
 |nil:Di Γ e []
 |v {t:Nat} {s:bN} {ay:Ctx} (h:look Γ t=some s) (r:Di Γ e ay):Di Γ e ((t,s)::ay)
 |o {t:Nat} {s:bN} {c:Bool} {ay:Ctx} (h:look Γ t=some (.opt c s)) (k:e=true->c=true) (r:Di Γ e ay):Di Γ e ((t,s)::ay)
def Di.mem{Γ ay:Ctx}(h:Di Γ e ay)(he:e=true):∀p∈ay,p∈Γ\/(p.1,bN.opt true p.2)∈Γ:=by
 induction h with
 |nil=>simp
 |v h _ ih=>
  intro p hp;rcases bP.1 hp with e|hp
  ·subst e;exact .inl<|az h
  ·exact ih p hp
 |o h k _ ih=>
  intro p hp;rcases bP.1 hp with e|hp
  ·subst e;have:=k he;subst this;exact .inr<|az h
  ·exact ih p hp
def Di.sat{Γ ay:Ctx}(h:Di Γ e ay)(he:e=true){w0:an P}{N:Nat}{w:aq5}(hs:Sat w0 H0 N Γ a w H):Sat w0 H0 N ay a w H:=by
 have key:∀p∈ay,∃s,(p.1,s)∈Γ/\(s.holds w0 a w H (aX a p.1)->p.2.holds w0 a w H (aX a p.1))/\∀v b,p.2.owns w v b->s.owns w v b:=by
  intro p hp;rcases h.mem he p hp with h|h
  ·exact⟨p.2,h,id,fun _ _ h=>h⟩
  ·exact⟨_,h,fun k=>k.1 rfl,fun v b hb=>⟨rfl,hb⟩⟩
 refine⟨hs.nd,hs.sz,hs.below,hs.J4,hs.sub,?_,?_,hs.gl⟩
 ·intro p hp;obtain⟨s,h1,h2,_⟩:=key p hp;exact h2<|hs.holds _ h1
 ·intro p hp q hq hne b hb jQ;obtain⟨s,h1,_,h3⟩:=key p hp;obtain⟨s',h1',_,h3'⟩:=key q hq;exact hs.sep _ h1 _ h1' hne b (h3 _ _ hb)<|h3' _ _ jQ
def opO{dz:Ctx}{o:Oper}(ho:Di Γ e dz)(h:e=true->bK P dz o s):e=true->bK P Γ o s:=
 fun he w0 H0 N a w H hs K Q k=>h he w0 H0 N a w H (ho.sat he hs) K Q fun v w' H' hx hv hb=>k v w' H' hx hv hb
structure aba(ops:auA Oper)(N:Nat)(Γ:Ctx)(o:Oper)(e:Bool):Prop where
 w:∀{P':ast} (w0:an P') (H0:HV) (a:Act) (w:aq5) (H:HV),Sat w0 H0 N Γ a w H->Region.wanted o (yielded ops a.tmps)=e
def aba.v{o:Oper}(hg:o.guard=some (j,want))(hj:(ops[j]?).bind (·.dst)=some dj)(hl:look Γ dj=some (.val<|aZ b))(hN:dj<N):aba ops N Γ o (gd b want):=
 ⟨fun _ _ _ _ _ hs=>Zy hs hg hj hl hN⟩
def aba.o{o:Oper}{j dj:Nat}{b c want:Bool}(hg:o.guard=some (j,want))(hj:(ops[j]?).bind (·.dst)=some dj)(hl:look Γ dj=some (.opt c<| .val<|aZ b))(hN:dj<N):aba ops N Γ o (c&&gd b want):=
 ⟨fun _ _ a _ _ hs=>by
  have h:=hs.holds _<|az hl
  have hlt:dj<a.tmps.size:=hs.sz▸hN;cases c
  ·have e:aX a dj=undef:=h.2 rfl;simp[aX,hlt] at e;have:yielded ops a.tmps j=none:=by simp[yielded,hj,hlt,e,undef]
   simp[Region.wanted,hg,this]
  ·have e:aX a dj= .bool b:=h.1 rfl;simp[aX,hlt] at e;have:yielded ops a.tmps j=some b:=by simp[yielded,hj,hlt,e]
   simp only[Region.wanted,hg,this,sQ];cases b<;>cases want<;>rfl⟩
def Step.guarded{o:Oper}(hgd:aba ops N Γ o e)
 (h:e=true->bK P Γ o s)(hd:o.dst=some d)(hN:d<N)(hf:nF d Γ=true)(hl:s.uz d=false):Step P N ops o Γ ((d,.opt e s)::Γ):=by
 intro w0 H0 a w H hs K Q k;rw[hgd.w w0 H0 a w H hs];have VT:d∉(bN.opt e s).bO:=CW (s:=s) hl;cases hb:e
 ·simp only[CT,if_false];rw[hd];subst hb;exact k _ _ _ (wu hs (Ext.refl hs.sub) hN hf VT ⟨(fun e=>by cases e),fun _=>rfl⟩ (fun c e=>by cases e.1))
 ·simp only[if_true];subst hb;refine h rfl w0 H0 N a w H hs K Q fun v w' H' he hv hfr=>?_
  rw[hd];exact k _ _ _ (wu hs he hN hf VT ⟨(fun _=>hv),(fun e=>by cases e)⟩<|fun c e=>hfr c e.2)
def Da(o:Oper):asv Edge:=o.after.toList.filter<|Region.binds .any
def B4(ops:auA Oper)(av:asv (asv Nat)):Bool:=
 (List.range ops.size).all fun i=>match ops[i]? with
  |none=>false
  |some o=>((Da o).all fun e=>decide<|e.on<i)&&
   (av.getD i []).all fun j=>(Da o).any fun e=>e.on==j||(av.getD e.on []).contains j
def yL(ops:auA Oper)(k:Nat)(av:asv (asv Nat)):Bool:=
 decide (k<=ops.size)&&(List.range ops.size).all fun i=>decide (i<k)||(List.range i).all fun j=>(av.getD i []).contains j
def meets(x:asv (Nat×asv Nat))(l:asv Nat):Bool:=x.any fun p=>l.contains p.1
def S4(k:Nat)(kl:asv (asv<|Nat×asv Nat))(jb:asv (asv Nat))(ja:asv Bool)(L:asv Nat)(av:asv (asv Nat)):Bool:=
 ((List.range k).all fun j=>(List.range j).all fun i=>
  (!(meets (kl.getD i []) (jb.getD j [])||meets (kl.getD i []) ((kl.getD j []).map (·.1))||meets (kl.getD j []) (jb.getD i [])))||(av.getD j []).contains i)&&
 ((List.range k).all fun j=> !(ja.getD j true)||(!(meets ((kl.getD j []).take 1) L)&&(List.range k).all fun i=>(kl.getD i []).all fun p=>p.2.all fun t=>
  !(meets ((kl.getD j []).take 1) [t])||(i !=j&&(meets (kl.getD j []) [p.1]||(av.getD i []).contains j||(av.getD j []).any fun m=>decide (i<m)&&meets (kl.getD m []) [p.1]))||(i==j&& !(meets ((kl.getD j []).take 1) [p.1]))))
def sF:Ctx->asv Nat
 |[]=>[]
 |p::Γ=>p.2.bO++sF Γ
def Ls:∀{Γ:Ctx} {q:Nat×bN} {t:Nat},q∈Γ->t∈q.2.bO->t∈sF Γ
 |p::Γ,q,t,h,e=>by
  rcases bP.1 h with h|h
  ·subst h;simp[sF,e]
  ·have:=Ls h e;simp[sF,this]
def bQ(d:Nat):Ctx->Ctx
 |[]=>[]
 |p::Γ=>bif Nat.beq p.1 d then bQ d Γ else p::bQ d Γ
def bI{d:Nat}:∀{Γ:Ctx},∀p∈bQ d Γ,p∈Γ/\p.1≠d
 |[],p,h=>by simp[bQ] at h
 |q::Γ,p,h=>by
  simp only[bQ] at h;cases hb:Nat.beq q.1 d
  ·rw[hb] at h;rcases bP.1 h with e|h
   ·subst e;exact⟨by simp,Nat.ne_of_beq_eq_false hb⟩
   ·exact⟨fY _ (bI p h).1,(bI p h).2⟩
  ·rw[hb] at h;exact⟨fY _ (bI p h).1,(bI p h).2⟩
def mi{d:Nat}:∀{Γ:Ctx} {p:Nat×bN},p∈Γ->p.1≠d->p∈bQ d Γ
 |q::Γ,p,h,hn=>by
  simp only[bQ];rcases bP.1 h with e|h
  ·subst e;cases hb:Nat.beq p.1 d
   ·simp
   ·exact absurd (fX hb) hn
  ·have:=mi h hn;cases Nat.beq q.1 d
   ·exact fY _ this
   ·exact this
def Qw(P:ast)(N:Nat)(ops:auA Oper)(dz:Ctx)(o:Oper)(t:Nat)(s:bN):Prop:=
 ∀tD:Ctx,(∀q∈dz,q∈tD)->Step P N ops o tD ((t,s)::bQ t tD)
def ag1(ks:asv Nat)(Γ:Ctx):Ctx:=Γ.filter fun q=> !ks.contains q.1
def zi{ks:asv Nat}{Γ:Ctx}{q:Nat×bN}:q∈ag1 ks Γ↔q∈Γ/\q.1∉ks:=by simp[ag1]
def Qx(P:ast)(N:Nat)(ops:auA Oper)(dz:Ctx)(o:Oper)(t d:Nat)(s:bN):Prop:=
 ∀tD:Ctx,(∀q∈dz,q∈tD)->Step P N ops o tD ((d,s)::del d (bQ t tD))
def XG(P:ast)(N:Nat)(ops:auA Oper)(dz:Ctx)(o:Oper)(t:Nat)(s':bN)(d:Nat)(s:bN):Prop:=
 ∀tD:Ctx,(∀q∈dz,q∈tD)->Step P N ops o tD ((d,s)::(t,s')::del d (bQ t tD))
def ans(P:ast)(N:Nat)(ops:auA Oper)(dz:Ctx)(o:Oper)(t:Nat)(s':bN)(d:Nat)(s:bN)(u:Nat)(su:bN):Prop:=
 ∀tD:Ctx,(∀q∈dz,q∈tD)->Step P N ops o tD ((d,s)::(t,s')::(u,su)::del d (bQ t tD))
def ah1(P:ast)(N:Nat)(ops:auA Oper)(dz:Ctx)(o:Oper)(t:Nat)(s:bN)(u:Nat)(s':bN):Prop:=
 ∀tD:Ctx,(∀q∈dz,q∈tD)->Step P N ops o tD ((t,s)::(u,s')::bQ t (bQ u tD))
def anv(P:ast)(N:Nat)(ops:auA Oper)(put:Bool)(c dz:Ctx)(o:Oper):Prop:=∀tD:Ctx,(∀q∈dz,q∈tD)->(put=true->∀q∈tD,q.1∉c.map (·.1)->∀p∈c.take 1,p.1∉q.2.bO)->(put=true->∀q∈c.take 1,∀p∈c.take 1,p.1∉q.2.bO)->∃ay:Ctx,Step P N ops o tD ay/\∀q,q∈c++ag1 (c.map (·.1)) tD->q∈ay
inductive bT(P:ast)(N:Nat)(ops:auA Oper)(Γ:Ctx):asv Ctx->asv Oper->asv (asv Nat)->asv Bool->asv Ctx->Prop where
 |nil {acc:asv Ctx}:bT P N ops Γ acc [] [] [] acc
 |gen {acc S:asv Ctx} {dz c:Ctx} {o:Oper} {l:asv Oper} {ts:asv Nat} {jb:asv (asv Nat)} {put:Bool} {ja:asv Bool}
   (hs:vi (acc.flatten++Γ) ts dz) (h:anv P N ops put c dz o) (r:bT P N ops Γ (c::acc) l jb ja S):bT P N ops Γ acc (o::l) (ts::jb) (put::ja) S
def UJ{A B:Ctx}{t:Nat}(h:look (A++B) t=some s):look A t=some s\/((∀q∈A,q.1≠t)/\look B t=some s):=by
 induction A with
 |nil=>exact .inr ⟨(fun q hq=>by cases hq),h⟩
 |cons p A ih=>
  obtain⟨k,s'⟩:=p;simp only[MO,look] at h⊢;cases hb:Nat.beq k t
  ·rw[hb] at h;rcases ih h with h|⟨h1,h2⟩
   ·exact .inl h
   ·refine .inr ⟨fun q hq=>?_,h2⟩;rcases bP.1 hq with e|hq
    ·subst e;exact Nat.ne_of_beq_eq_false hb
    ·exact h1 q hq
  ·rw[hb] at h;exact .inl h
def At(Γ:Ctx)(S:asv Ctx)(i:Nat)(q:Nat×bN):Prop:=
 (∃j c,j<i/\S[j]? =some c/\q∈c/\∀j' c',j<j'->j'<i->S[j']? =some c'->∀q'∈c',q'.1≠q.1)\/(q∈Γ/\∀j c',j<i->S[j]? =some c'->∀q'∈c',q'.1≠q.1)
def HJ{Γ:Ctx}{t:Nat}{s:bN}{S:asv Ctx}:∀{acc:asv Ctx},(∀j,j<acc.length->S[j]? =acc.reverse[j]?)->look (acc.flatten++Γ) t=some s->At Γ S acc.length (t,s)
 |[],_,h=> .inr ⟨az (by simpa using h),fun j c' hj=>by simp at hj⟩
 |c::acc,hS,h=>by
  have adn:S[acc.length]? =some c:=by rw[hS _ (by simp)];simp
  rw[List.flatten_cons,rq] at h;rcases UJ h with h|⟨h1,h2⟩
  ·exact .inl ⟨acc.length,c,by simp,adn,az h,fun j' c' h3 h4=>by simp at h4;omega⟩
  ·have ih:=HJ (acc:=acc) (fun j hj=>by
    rw[hS j (by simp;omega),List.reverse_cons,xF (by simpa using hj)]) h2
   rcases ih with⟨j,c0,k1,k2,k3,k4⟩|⟨k1,k2⟩
   ·refine .inl ⟨j,c0,by simp;omega,k2,k3,fun j' c' h3 h4 h5=>?_⟩;simp at h4;by_cases e:j'=acc.length
    ·subst e;rw[adn] at h5;cases h5;exact h1
    ·exact k4 j' c' h3 (by omega) h5
   ·refine .inr ⟨k1,fun j' c' h4 h5=>?_⟩;simp at h4;by_cases e:j'=acc.length
    ·subst e;rw[adn] at h5;cases h5;exact h1
    ·exact k2 j' c' (by omega) h5
structure aeA(P:ast)(N:Nat)(ops:auA Oper)(Γ:Ctx)(ts:asv Nat)(put:Bool)(S:asv Ctx)(i:Nat)(o:Oper)(c:Ctx):Prop where
 exec:∃dz:Ctx,anv P N ops put c dz o/\∀q∈dz,q.1∈ts/\At Γ S i q
def vi.looks{Γ:Ctx}{ts:asv Nat}{ay:Ctx}(h:vi Γ ts ay):∀p∈ay,look Γ p.1=some p.2:=by
 induction h with
 |nil=>simp
 |cons h _ ih=>
  intro p hp;rcases bP.1 hp with e|hp
  ·subst e;exact h
  ·exact ih p hp
def Up{tD:Ctx}(h:∀q∈tD,q.1≠d->d∉q.2.bO):nF d (bQ d tD)=true:=by
 simp only[nF,dC,cW,p9,ne_eq];exact fun q hq=>⟨(bI q hq).2,by simpa using h q (bI q hq).1 (bI q hq).2⟩
def Sat.Zb{P:ast}{w0:an P}{w:aq5}(hs:Sat w0 H0 N Γ a w H)(t:Nat):Sat w0 H0 N ((t,.gone)::Γ) a w H:=by
 refine⟨hs.nd,hs.sz,hs.below,hs.J4,hs.sub,?_,?_,hs.gl⟩
 ·intro p hp;rcases bP.1 hp with e|hp
  ·subst e;trivial
  ·exact hs.holds p hp
 ·intro p hp q hq hne b hb jQ;rcases bP.1 hp with e|hp
  ·subst e;exact hb.elim
  ·rcases bP.1 hq with e|hq
   ·subst e;exact jQ.elim
   ·exact hs.sep p hp q hq hne b hb jQ
def Step.gone{o:Oper}(h:Step P N ops o Γ ay)(t:Nat):Step P N ops o Γ ((t,.gone)::ay):=
 fun w0 H0 a w H hs K Q k=>h w0 H0 a w H hs K Q fun a' w' H' pN=>k a' w' H'<|pN.Zb t
def Step.ahR{o:Oper}(h:Step P N ops o Γ ay):∀gs:asv Nat,Step P N ops o Γ ((gs.map fun u=>(u,bN.gone))++ay)
 |[]=>h
 |u::gs=>(Step.ahR h gs).gone u
def Sr{tD:Ctx}{p q:Nat×bN}(h:q∈[p]++ag1 ([p].map (·.1)) tD):q∈p::bQ p.1 tD:=by
 rcases mw.1 h with h|h
 ·rw[vT.1 h];simp
 ·obtain⟨h1,h2⟩:=zi.1 h;exact fY _ (mi h1 (by simpa using h2))
def qI{d:Nat}:∀{Γ:Ctx} {p:Nat×bN},p∈Γ->p.1≠d->d∉p.2.bO->p∈del d Γ
 |q::Γ,p,h,hn,hl=>by
  simp only[del];have hq:(Nat.beq p.1 d||p.2.uz d)=false:=by
   rw[zL];exact⟨by cases hb:Nat.beq p.1 d;rfl;exact absurd (fX hb) hn,WB hl⟩
  rcases bP.1 h with e|h
  ·subst e;rw[hq];simp
  ·have:=qI h hn hl;cases(Nat.beq q.1 d||q.2.uz d)
   ·exact fY _ this
   ·exact this
def bT.at_{acc:asv Ctx}{l:asv Oper}{jb:asv (asv Nat)}{ja:asv Bool}{S:asv Ctx}(h:bT P N ops Γ acc l jb ja S):
  (∃S',S=S'++acc/\S'.length=l.length)/\jb.length=l.length/\ja.length=l.length/\∀(i:Nat) (o:Oper) (ts:asv Nat) (put:Bool),l[i]? =some o->jb[i]? =some ts->ja[i]? =some put->
   ∃p,S.reverse[acc.length+i]? =some p/\aeA P N ops Γ ts put S.reverse (acc.length+i) o p:=by
 have step:∀{acc:asv Ctx} {c:Ctx} {l:asv Oper} {S:asv Ctx},(∃S',S=S'++c::acc/\S'.length=l.length)->
   (∃S',S=S'++acc/\S'.length=l.length+1)/\S.reverse[acc.length]? =some c/\∀j,j<acc.length->S.reverse[j]? =acc.reverse[j]? :=by
  rintro acc c l S ⟨S',rfl,hl⟩;refine⟨⟨S'++[c],by simp,by simp[hl]⟩,by simp,fun j hj=>?_⟩;simp only[List.reverse_append,List.reverse_cons,rq];rw[xF (by simpa using hj)]
 induction h with
 |nil=>exact⟨⟨[],by simp⟩,rfl,rfl,fun i o _ _ h=>by simp at h⟩
 | @gen acc S dz c o l ts jb put ja hs h r ih=>
  obtain⟨h1,h2,h3,h4⟩:=ih;obtain⟨k1,k2,k3⟩:=step h1;refine⟨by simpa using k1,by simp[h2],by simp[h3],?_⟩;intro i o' ts' aos hi hn hp;cases i with
  |zero=>
   simp at hi hn hp;subst hi;subst hn;subst hp;exact⟨c,by simpa using k2,⟨dz,h,fun q hq=>⟨hs.keys q hq,by simpa using HJ k3 (hs.looks q hq)⟩⟩⟩
  |succ i=>
   simp at hi hn hp;obtain⟨p,hp1,hp2⟩:=h4 i o' ts' aos hi hn hp;have e:acc.length+(i+1)=(c::acc).length+i:=by simp;omega
   rw[e];exact⟨p,hp1,hp2⟩
end
section
variable[D:DR]
variable{P:Program}{N:Nat}{ops:Array Oper}{Γ ay fD uZ:Ctx}
variable{acc S:List Ctx}{Γ dz:Ctx}{o:Oper}{l:List Oper}{ts:List Nat}{jb:List (List Nat)}{ja:List Bool}{t d u:Nat}{s s' su:bN}{e:Bool}(gs:List Nat)(hs:vi (acc.flatten++Γ) ts dz)
include hs
def bT.cons(h:bK P dz o s)(hg:o.guard=none)(hd:o.dst=some d)(hN:d<N)(r:bT P N ops Γ ([(d,s)]::acc) l jb ja S):bT P N ops Γ acc (o::l) (ts::jb) (true::ja) S:=by
 refine .gen hs (fun tD bY tu U5=>?_) r;refine⟨(d,s)::bQ d tD,?_,fun q hq=>Sr hq⟩;intro w0 H0 a w H df K Q kk;simp only[Region.wanted,hg,if_true];refine h w0 H0 N a w H (df.weaken bY) K Q fun v w' H' he hv hb=>?_
 rw[hd];exact kk _ _ _ (wu (df.weaken fun q hq=>(bI q hq).1) he hN (Up fun q hq hn=>tu rfl q hq (by simpa using hn) (d,s) (by simp)) (U5 rfl (d,s) (by simp) (d,s) (by simp)) hv hb)
def bT.guarded(hgd:aba ops N dz o e)(h:e=true->bK P dz o s)(hd:o.dst=some d)(hN:d<N)(r:bT P N ops Γ ([(d,.opt e s)]::acc) l jb ja S):bT P N ops Γ acc (o::l) (ts::jb) (true::ja) S:=by
 refine .gen hs (fun tD bY tu U5=>?_) r;refine⟨(d,.opt e s)::bQ d tD,?_,fun q hq=>Sr hq⟩;intro w0 H0 a w H df K Q kk;rw[hgd.w w0 H0 a w H<|df.weaken bY];have ahC:=df.weaken (ay:=bQ d tD) fun q hq=>(bI q hq).1
 have hf':nF d (bQ d tD)=true:=Up fun q hq hn=>tu rfl q hq (by simpa using hn) (d,.opt e s) (by simp)
 have pN:d∉(bN.opt e s).bO:=U5 rfl (d,.opt e s) (by simp) (d,.opt e s) (by simp);cases hb:e
 ·simp only[CT,if_false];rw[hd];subst hb;exact kk _ _ _ (wu ahC (Ext.refl df.sub) hN hf' pN ⟨(fun e=>by cases e),fun _=>rfl⟩ (fun c e=>by cases e.1))
 ·simp only[if_true];subst hb;refine h rfl w0 H0 N a w H (df.weaken bY) K Q fun v w' H' he hv hfr=>?_
  rw[hd];exact kk _ _ _ (wu ahC he hN hf' pN ⟨(fun _=>hv),(fun e=>by cases e)⟩<|fun c e=>hfr c e.2)
def bT.store(h:Qw P N ops dz o t s)(r:bT P N ops Γ ([(t,s)]::acc) l jb ja S):bT P N ops Γ acc (o::l) (ts::jb) (false::ja) S:=
 .gen hs (fun tD bY _ _=>⟨_,h tD bY,fun q hq=>Sr hq⟩) r
def bT.ajV(h:Qx P N ops dz o t d s)(r:bT P N ops Γ (((d,s)::(t,.gone)::gs.map fun u=>(u,.gone))::acc) l jb ja S):bT P N ops Γ acc (o::l) (ts::jb) (true::ja) S:=by
 refine .gen hs (fun tD bY tu _=>⟨_,((h tD bY).ahR gs).gone t,fun q hq=>?_⟩) r;rcases mw.1 hq with hq|hq
 ·rcases bP.1 hq with e|hq
  ·subst e;exact fY _ (CD _ (by simp))
  ·rcases bP.1 hq with e|hq
   ·subst e;simp
   ·exact fY _<|AI _ hq
 ·obtain⟨m1,m2⟩:=zi.1 hq;have m3:=m2;simp only[uy,bP,not_or] at m2;refine fY _<|CD _<|fY _<|qI (mi m1 m2.2.1) m2.1 ?_
  exact tu rfl q m1 m3 (d,s) (by simp)
def bT.two(h:XG P N ops dz o t s' d s)(r:bT P N ops Γ ([(d,s),(t,s')]::acc) l jb ja S):bT P N ops Γ acc (o::l) (ts::jb) (true::ja) S:=by
 refine .gen hs (fun tD bY tu _=>⟨_,h tD bY,fun q hq=>?_⟩) r;rcases mw.1 hq with hq|hq
 ·simp only[bP,zG,or_false] at hq;rcases hq with e|e<;>subst e<;>simp
 ·obtain⟨m1,m2⟩:=zi.1 hq;have m3:=m2;simp only[uy,MI,bP,zG,or_false,not_or] at m2;exact fY _ (fY _ (qI (mi m1 m2.2) m2.1 (tu rfl q m1 m3 (d,s) (by simp))))
def bT.three(h:ans P N ops dz o t s' d s u su)(r:bT P N ops Γ ([(d,s),(t,s'),(u,su)]::acc) l jb ja S):bT P N ops Γ acc (o::l) (ts::jb) (true::ja) S:=by
 refine .gen hs (fun tD bY tu _=>⟨_,h tD bY,fun q hq=>?_⟩) r;rcases mw.1 hq with hq|hq
 ·simp only[bP,zG,or_false] at hq;rcases hq with e|e|e<;>subst e<;>simp
 ·obtain⟨m1,m2⟩:=zi.1 hq;have m3:=m2;simp only[uy,MI,bP,zG,or_false,not_or] at m2;exact fY _ (fY _ (fY _ (qI (mi m1 m2.2.1) m2.1 (tu rfl q m1 m3 (d,s) (by simp)))))
def bT.abM(h:ah1 P N ops dz o t s u s')(r:bT P N ops Γ ([(t,s),(u,s')]::acc) l jb ja S):bT P N ops Γ acc (o::l) (ts::jb) (false::ja) S:=by
 refine .gen hs (fun tD bY _ _=>⟨_,h tD bY,fun q hq=>?_⟩) r;rcases mw.1 hq with hq|hq
 ·simp only[bP,zG,or_false] at hq;rcases hq with e|e<;>subst e<;>simp
 ·obtain⟨m1,m2⟩:=zi.1 hq;simp only[uy,MI,bP,zG,or_false,not_or] at m2;exact fY _<|fY _<|mi (mi m1 m2.2) m2.1
end
section
variable[D:DR]
variable{P:ast}{w:aq5}{o:Oper}{n:Nat}{l:asv Oper}
def qY{P:ast}(w0:an P)(N:Nat)(Γ fD:Ctx):Prop:=∀(H0:HV) (a:Act) (w:aq5) (H:HV),Sat w0 H0 N Γ a w H->∃H',Sat w0 H0 N fD a w H'
inductive fP(P:ast)(w0:an P)(N:Nat)(ops:auA Oper):asv Oper->Ctx->Ctx->Prop where
 |done {Γ:Ctx}:fP P w0 N ops [] Γ Γ
 |fin {Γ ay:Ctx} {ts:asv Nat} (h:vi Γ ts ay):fP P w0 N ops [] Γ ay
 |cons {Γ fD uZ:Ctx} {o:Oper} {l:asv Oper} (h:Step P N ops o Γ fD) (r:fP P w0 N ops l fD uZ):fP P w0 N ops (o::l) Γ uZ
 |ghost {Γ fD uZ:Ctx} {l:asv Oper} (h:qY w0 N Γ fD) (r:fP P w0 N ops l fD uZ):fP P w0 N ops l Γ uZ
def iP(rd:auz Nat):Fence:={fn:=fun _=>True,depth:=none,alive:=false,round:=rd}
def aeb{rd:auz Nat}{f:FuncId}{args:auA aq6}{R:Ending->aq5->Prop}(h:Calls P f args w R):CallsIn (iP rd) n P f args w R:=
 (callsIn_wide (n:=n)).2 h
def IU{rd:auz Nat}{a:Act}{K:Act->aq5->Prop}{Q:Exit->Act->aq5->Prop}(Rf:∀c,o.op≠ .defer c)(h:o.wp P a w K Q):o.wpIn (iP rd) 0 P a w K Q:=by
 refine⟨fun _ _=>trivial,?_⟩;rw[Oper.semAt_eq _ _ _ Rf];unfold Oper.wp at h
 generalize (execOp a.eval o).run P w=r at*
 cases r with
 |ok n w'=>
  cases n<;>simp only[Oper.upon] at h<;>first
   |exact h
   |exact h.elim
   |exact⟨(fun e=>by cases e),aeb h⟩
   |exact⟨(fun e=>by cases e),fun c cs _=>let⟨v,w2,r1,s⟩:=h c cs;⟨v,w2,r1,stepsIn_wide.2 s⟩⟩
 |halt x w'=>cases x<;>simp only[Oper.upon] at h⊢ <;>exact h
def CallsIn.ahv{F:Fence}{f:FuncId}{args:auA aq6}{R R':Ending->aq5->Prop}(h:CallsIn F n P f args w R)(hr:∀e w',R e w'->R' e w'):CallsIn F n P f args w R':=
 ⟨h.1,fun cs hc=>let⟨e,w',fr,r,s⟩:=h.2 cs hc;⟨e,w',fr,hr _ _ r,s⟩⟩
def H5{F:Fence}{a:Act}{K K':Act->aq5->Prop}{Q:Exit->Act->aq5->Prop}(h:∀a w,K a w->K' a w)(hh:o.wpIn F n P a w K Q):o.wpIn F n P a w K' Q:=by
 refine⟨hh.1,?_⟩;have hh:=hh.2
 generalize (o.semAt F.round a.eval).run P w=r at*
 cases r with
 |ok n w'=>
  cases n<;>simp only[Oper.uponIn] at hh⊢ <;>
   first
    |exact h _ _ hh
    |exact⟨hh.1,CallsIn.ahv hh.2 (fun e w'' he=>by cases e<;>first|exact h _ _ he|exact he)⟩
    |exact⟨hh.1,RowsIn.mono hh.2<|fun _ _ he=>h _ _ he⟩
    |exact⟨hh.1,RoundIn.mono hh.2 (fun e w'' he=>by cases e<;>first|exact h _ _ he|exact he)⟩
 |halt x w'=>cases x<;>simp only[Oper.uponIn] at hh⊢ <;>exact hh
def pU(l:asv Oper):Bool:=l.all fun o=>match o.op with| .defer _=>false|_=>true
def Cn(h:pU l=true)(ho:o∈l):∀c,o.op≠ .defer c:=fun c e=>by
 have:=dC.1 h o ho;simp[e] at this
def Om(h:pU (o::l)=true):pU l=true:=by simp only[pU,sE,cW] at h;exact h.2
def fP.sound{w0:an P}{N:Nat}{ops:auA Oper}{Γ ay:Ctx}(h:fP P w0 N ops l Γ ay):pU l=true->∀(H0:HV) (a:Act) (w:aq5) (H:HV),Sat w0 H0 N Γ a w H->∀(Q:Exit->Act->aq5->Prop),
  (∀a' w' H',Sat w0 H0 N ay a' w' H'->Q .normal a' w')->wpListIn (iP w0.rd) 0 P ops Q l a w:=by
 induction h with
 |done=>exact fun _ _ _ _ H hs _ k=>k _ _ H hs
 |fin h=>exact fun _ _ _ _ H hs _ k=>k _ _ H<|hs.weaken h.sub
 | @cons _ _ _ o l h _ ih=>
  intro gS H0 a w H hs Q k;have yc:=h w0 H0 a w H hs (wpListIn (iP w0.rd) 0 P ops Q l) Q fun a' w' H' pN=>ih (Om gS) H0 a' w' H' pN Q k
  unfold wpListIn;split
  ·rename_i hw;rw[if_pos hw] at yc;exact IU (Cn gS (by simp)) yc
  ·rename_i hw;rw[if_neg hw] at yc;exact⟨fun _ _=>trivial,yc⟩
 |ghost h _ ih=>
  intro gS H0 a w H hs Q k;obtain⟨H',pN⟩:=h H0 a w H hs;exact ih gS H0 a w H' pN Q k
end
section
variable[D:DR]
variable{P:Program}{ops:Array Oper}{Q:Exit->Act->World->Prop}{F:Fence}
def H4(F:Fence)(P:ast)(ops:auA Oper)(Q:Exit->Act->aq5->Prop)(i:Nat)(K:Act->aq5->Prop)(a:Act)(w:aq5):Prop:=
 match ops[i]? with
 |none=>K a w
 |some o=>if Region.wanted o (yielded ops a.tmps) then o.wpIn F 0 P a w K Q else(∀f,o.about P w a.eval=some f->F.fn f)/\K (a.put o.dst undef) w
def xm(F:Fence)(P:ast)(ops:auA Oper)(Q:Exit->Act->aq5->Prop):Nat->auA Bool->Act->aq5->Prop
 |0,listed,a,w=>Region.ready .any ops listed=[]/\Q .normal a w
 |fuel+1,listed,a,w=>
  (Region.ready .any ops listed=[]->Q .normal a w)/\
  ∀i∈Region.ready .any ops listed,H4 F P ops Q i (xm F P ops Q fuel<|listed.setIfInBounds i true) a w
def TC(i:Nat)(rest:asv Nat)(a:Act)(w:aq5):wpOpsIn F 0 P ops Q (i::rest) a w=H4 F P ops Q i (wpOpsIn F 0 P ops Q rest) a w:=by
 cases h:ops[i]? <;>simp[wpOpsIn,H4,h]
def V2{i:Nat}{a:Act}{w:aq5}{K K':Act->aq5->Prop}(h:∀a w,K a w->K' a w)(hh:H4 F P ops Q i K a w):H4 F P ops Q i K' a w:=by
 unfold H4 at*;split
 ·exact h _ _ (by simpa[*] using hh)
 ·rename_i o ho;simp only[ho] at hh;split
  ·rename_i hw;simp only[hw,if_true] at hh;exact H5 h hh
  ·rename_i hw;simp only[hw] at hh;exact⟨hh.1,h _ _ hh.2⟩
def Rx:∀(fuel t:Nat) (listed:auA Bool) (a:Act) (w:aq5),xm F P ops Q fuel listed a w->wpOpsIn F 0 P ops Q (Region.linearise.go .any ops fuel t listed []) a w:=by
 intro fuel
 induction fuel with
 |zero=>intro t listed a w h;simpa[Region.linearise.go,wpOpsIn] using h.2
 |succ fuel ih=>
  intro t listed a w h;obtain⟨h0,h1⟩:=h;simp only[Region.linearise.go];change wpOpsIn F 0 P ops Q (match(Region.ready .any ops listed)[t%(Region.ready .any ops listed).length]? with
   |some i=>Region.linearise.go .any ops fuel (t/(Region.ready .any ops listed).length) (listed.setIfInBounds i true) [i]
   |none=>[].reverse) a w
  cases hi:(Region.ready .any ops listed)[t%(Region.ready .any ops listed).length]? with
  |none=>
   have adi:Region.ready .any ops listed=[]:=by
    cases hr:Region.ready .any ops listed with
    |nil=>rfl
    |cons x xs=>
     rw[hr] at hi;have hlt:t%(x::xs).length<(x::xs).length:=uv _ (by simp);simp at hi;simp at hlt;omega
   simpa[wpOpsIn] using h0 adi
  |some i=>
   simp only[];rw[linearise_go_acc,List.reverse_singleton,List.singleton_append,TC];exact V2 (fun a w=>ih _ _ a w)<|h1 i<|FK hi
def Dm{id:Nat}{a:Act}{w:aq5}(hm:P.follows .mixedOrders=true)
  (h:xm F P ops Q ops.size (Array.replicate ops.size false) a {w with drawn:=w.drawn+1}):(Code.region id ops true).wpIn F 0 P Q a w:=
 wpIn_region_draw fun t=>by
  simp only[Region.schedule,hm,FA,if_true];exact Rx ops.size t _ a _ h
end
section
variable[D:DR]
variable{P:Program}{N:Nat}{ops:Array Oper}{Γ ay:Ctx}
variable{listed:auA Bool}{i:Nat}{av:asv (asv Nat)}{Q:Exit->Act->aq5->Prop}{k:Nat}{S:asv Ctx}{a:Act}{w:aq5}{c:Ctx}{jb:asv (asv Nat)}{ja:asv Bool}{kl:asv (asv<|Nat×asv Nat)}{L:asv Nat}{DN:Ctx}{ts:asv Nat}{w0:an P}{H0:HV}
def v7(listed:auA Bool)(i:Nat):Prop:=listed.getD i false=true
def YY(h:i<listed.size):listed.getD i true=listed.getD i false:=by simp[h]
def vB(hs:listed.size=ops.size):i∈Region.ready .any ops listed↔∃o,ops[i]? =some o/\ ¬v7 listed i/\∀e∈Da o,v7 listed e.on:=by
 simp only[Region.ready,CP,wJ];constructor
 ·rintro⟨hi,h⟩;have hi':i<listed.size:=hs▸hi;rw[YY hi'] at h;simp only[cW,jj] at h;obtain⟨h1,h2⟩:=h;refine⟨ops[i],by simp[hi],by simp[v7];simpa using h1,?_⟩;simp only[hi,getElem?_pos,yG,FI] at h2;intro e he;have:=Array.all_eq_true'.1 h2 e (by simpa using(CP.1 he).1);have hb:=(CP.1 he).2;simp[hb] at this;simpa[v7] using this
 ·rintro⟨o,ho,hl,he⟩;have hi:i<ops.size:=(zO.1 ho).1;have hi':i<listed.size:=hs▸hi;refine⟨hi,?_⟩;rw[YY hi'];simp only[cW,jj,ho,yG,FI];refine⟨by simpa[v7] using hl,?_⟩;rw[Array.all_eq_true'];intro e hm;by_cases hb:Region.binds .any e=true
  ·have:=he e (CP.2 ⟨by simpa using hm,hb⟩);simp[v7] at this;simp[this]
  ·simp at hb;simp[hb]
def qP{j:Nat}(hi:i<listed.size):v7 (listed.setIfInBounds i true) j↔(j=i\/v7 listed j):=by
 simp only[v7,EK];by_cases e:i=j
 ·subst e;simp[hi]
 ·rw[Array.getElem?_setIfInBounds_ne e];constructor
  ·exact fun h=> .inr h
  ·rintro(h|h)
   ·exact absurd h.symm e
   ·exact h
def unl(listed:auA Bool):Nat:=listed.toList.count false
def RN(hi:i<listed.size)(hn: ¬v7 listed i):unl (listed.setIfInBounds i true)+1=unl listed:=by
 have hf:listed.toList[i]'(by simpa using hi)=false:=by
  simp[v7,hi] at hn;simpa using hn
 have hpos:0<listed.toList.count false:=List.count_pos_iff.2 (by rw[<-hf];exact rp _);simp only[unl,M4];rw[List.count_set (by simpa using hi),hf];simp only[beq_self_eq_true,if_true];have:(true==false)=false:=rfl;rw[this];simp only[CT,if_false];omega
def NS(h:unl listed=0)(hi:i<listed.size):v7 listed i:=by
 have:=List.count_eq_zero.1 h;have hm:listed[i]∈listed.toList:=by simp
 simp only[v7,hi,EK,getElem?_pos,FI];cases hb:listed[i]
 ·rw[hb] at hm;exact absurd hm this
 ·rfl
def Y3(Nb:B4 ops av=true){o:Oper}(ho:ops[i]? =some o){e:Edge}(he:e∈Da o):e.on<i:=by
 have hi:=(zO.1 ho).1;have:=dC.1 Nb i (by simp[hi]);rw[ho] at this;simp only[cW,dC,zI] at this;exact this.1 e he
def kU{n m:Nat}: ¬v7 (Array.replicate n false) m:=by
 simp only[v7,EK,Array.getElem?_replicate];split<;>simp
def G8(Nb:B4 ops av=true)(hs:listed.size=ops.size)(hi:i<ops.size)(hn: ¬v7 listed i):Region.ready .any ops listed≠[]:=by
 have key:∀m,∀i,i<=m->i<ops.size-> ¬v7 listed i->∃j,j∈Region.ready .any ops listed:=by
  intro m
  induction m with
  |zero=>
   intro i him hi hn;have:i=0:=by omega
   subst this;refine⟨0,(vB hs).2 ⟨ops[0],by simp[hi],hn,?_⟩⟩;intro e he;have:=Y3 Nb (i:=0) (o:=ops[0]) (by simp[hi]) he;omega
  |succ m ih=>
   intro i him hi hn;by_cases hall:∀e∈Da ops[i],v7 listed e.on
   ·exact⟨i,(vB hs).2 ⟨ops[i],by simp[hi],hn,hall⟩⟩
   ·have⟨e,he,hne⟩:∃e,e∈Da ops[i]/\ ¬v7 listed e.on:=by
     apply sU;intro hc;exact hall fun e he=>sU fun h=>hc ⟨e,he,h⟩
    have:=Y3 Nb (i:=i) (o:=ops[i]) (by simp[hi]) he;exact ih e.on (by omega) (by omega) hne
 obtain⟨j,hj⟩:=key i i (bG _) hi hn;intro e;rw[e] at hj;cases hj
def FZ(Nb:B4 ops av=true)(hs:listed.size=ops.size)(hc:∀m,v7 listed m->∀j∈av.getD m [],v7 listed j)(hi:i∈Region.ready .any ops listed):∀j∈av.getD i [],v7 listed j:=by
 obtain⟨o,ho,hn,he⟩:=(vB hs).1 hi;have hlt:=(zO.1 ho).1;have:=dC.1 Nb i (by simp[hlt]);simp only[ho,cW,dC,MN] at this;intro j hj;obtain⟨e,he',hx⟩:=this.2 j hj;simp only[qd,wE,Bj] at hx;rcases hx with hx|hx
 ·exact hx▸he e he'
 ·exact hc e.on (he e he') j hx
def Fi{rd:auz Nat}{o:Oper}{K:Act->aq5->Prop}(ho:ops[i]? =some o)(Rf:∀c,o.op≠ .defer c)
 (h:if Region.wanted o (yielded ops a.tmps) then o.wp P a w K Q else K (a.put o.dst undef) w):H4 (iP rd) P ops Q i K a w:=by
 unfold H4;simp only[ho];split
 ·rename_i hw;rw[if_pos hw] at h;exact IU Rf h
 ·rename_i hw;rw[if_neg hw] at h;exact⟨fun _ _=>trivial,h⟩
def QF{F:Fence}(hq:Q .normal a w)(fuel:Nat)(listed:auA Bool)(hsz:listed.size=ops.size)(hL:∀j,j<ops.size->v7 listed j):xm F P ops Q fuel listed a w:=by
 have hr:Region.ready .any ops listed=[]:=by
  apply List.eq_nil_iff_forall_not_mem.2;intro i hi;obtain⟨o,ho,hn,_⟩:=(vB hsz).1 hi;exact hn<|hL i (zO.1 ho).1
 cases fuel with
 |zero=>exact⟨hr,hq⟩
 |succ f=>exact⟨fun _=>hq,fun i hi=>by rw[hr] at hi;cases hi⟩
def V8{F:Fence}(Nb:B4 ops av=true)(SM:yL ops k av=true):∀(l:asv Oper)
  (i fuel:Nat) (listed:auA Bool) (a:Act) (w:aq5),l=ops.toList.drop i->k<=i->i<=ops.size->listed.size=ops.size->(∀j,j<ops.size->(v7 listed j↔j<i))->
   (∀m,v7 listed m->∀j∈av.getD m [],v7 listed j)->unl listed<=fuel->wpListIn F 0 P ops Q l a w->xm F P ops Q fuel listed a w:=by
 intro l
 induction l with
 |nil=>
  intro i fuel listed a w hl hki hi hsz hL hc hu hw;have:ops.size<=i:=by simpa using List.drop_eq_nil_iff.1 hl.symm
  exact QF hw fuel listed hsz (fun j hj=>(hL j hj).2 (by omega))
 |cons o l ih=>
  intro i fuel listed a w hl hki hi hsz hL hc hu hw;have Qo:i<ops.size:=by
   apply sU;intro W7;rw[List.drop_eq_nil_of_le (by simp<;>omega)] at hl;cases hl
  have hnl: ¬v7 listed i:=fun h=>by have:=(hL i Qo).1 h;omega
  have ho:ops[i]? =some o:=by
   have:(ops.toList.drop i)[0]? =some o:=by rw[<-hl];rfl
   simpa using this
  have VT:l=ops.toList.drop (i+1):=by
   have:=congrArg List.tail hl;simpa using this
  have hne:=G8 Nb hsz Qo hnl;have only:∀j∈Region.ready .any ops listed,j=i:=by
   intro j hj;obtain⟨o',WY,hn,_⟩:=(vB hsz).1 hj;have al9:=(zO.1 WY).1;have hji:i<=j:=by
    apply sU;intro hlt;exact hn ((hL j al9).2 (by omega))
   have ap7:=FZ Nb hsz hc hj;simp only[yL,cW,dC,wJ,qd,zI,Bj] at SM;rcases SM.2 j al9 with hx|hx
   ·omega
   ·apply sU;intro hne;have:=(hL i Qo).1 (ap7 i (hx i (by omega)));omega
  cases fuel with
  |zero=>
   exact absurd (NS (by omega)<|hsz▸Qo) hnl
  |succ f=>
   refine⟨fun e=>absurd e hne,fun j hj=>?_⟩;have hji:=only j hj;subst hji;have w9:j<listed.size:=hsz▸Qo;have next:∀a' w',wpListIn F 0 P ops Q l a' w'->xm F P ops Q f (listed.setIfInBounds j true) a' w':=by
    intro a' w' hw';refine ih (j+1) f _ a' w' VT (by omega) (by omega) (by simp[hsz]) ?_ ?_ ?_ hw'
    ·intro m hm;rw[qP w9,hL m hm];omega
    ·intro m hm x hx;rw[qP w9] at hm⊢;rcases hm with hm|hm
     ·subst hm;exact .inr<|FZ Nb hsz hc hj x hx
     ·exact .inr<|hc m hm x hx
    ·have:=RN w9 hnl;omega
   unfold wpListIn at hw;unfold H4;simp only[ho];split
   ·rename_i hwt;rw[if_pos hwt] at hw;exact H5 next hw
   ·rename_i hwt;rw[if_neg hwt] at hw;exact⟨hw.1,next _ _ hw.2⟩
def other(listed:auA Bool)(S:asv Ctx)(k lo:Nat)(t:Nat):Bool:=(List.range k).all fun j=> !(decide (lo<=j)&&listed.getD j false)||(S.getD j []).all fun q=>q.1 !=t
def Wi(listed:auA Bool)(S:asv Ctx)(k:Nat)(Γ:Ctx):Ctx:=
 ((List.range k).flatMap fun j=>if listed.getD j false=true then(S.getD j []).filter (fun q=>other listed S k (j+1) q.1) else [])++
 Γ.filter fun q=>other listed S k 0 q.1
def Fp{lo t:Nat}:other listed S k lo t=true↔∀j c,lo<=j->j<k->v7 listed j->S[j]? =some c->∀q∈c,q.1≠t:=by
 simp only[other,dC,wJ,qd,jj,Bool.and_eq_false_imp,zI,p9,ne_eq];constructor
 ·intro h j c h1 h2 h3 h4 q hq;rcases h j h2 with h|h
  ·have:=h h1;rw[h3] at this;cases this
  ·exact h q (by rw[iw,h4];exact hq)
 ·intro h j hj;by_cases hl:lo<=j/\listed.getD j false=true
  ·right;intro q hq;rw[iw] at hq;cases hc:S[j]? with
   |none=>rw[hc] at hq;cases hq
   |some c=>rw[hc] at hq;exact h j c hl.1 hj hl.2 hc q hq
  ·left;intro h1;cases hb:listed.getD j false
   ·rfl
   ·exact absurd ⟨h1,hb⟩ hl
def w4{Γ:Ctx}{q:Nat×bN}:q∈Wi listed S k Γ↔
  (∃j c,j<k/\v7 listed j/\S[j]? =some c/\q∈c/\∀j' c',j<j'->j'<k->v7 listed j'->S[j']? =some c'->∀q'∈c',q'.1≠q.1)\/(q∈Γ/\∀j c',j<k->v7 listed j->S[j]? =some c'->∀q'∈c',q'.1≠q.1):=by
 simp only[Wi,mw,List.mem_flatMap,wJ,CP];constructor
 ·rintro(⟨j,hj,h⟩|⟨h1,h2⟩)
  ·left;split at h
   ·rename_i hl;obtain⟨h1,h2⟩:=CP.1 h;rw[Fp] at h2;cases hc:S[j]? with
    |none=>rw[iw,hc] at h1;cases h1
    |some c=>
     rw[iw,hc] at h1;exact⟨j,c,hj,hl,hc,h1,fun j' c' h3 h4 h5 h6=>h2 j' c' h3 h4 h5 h6⟩
   ·cases h
  ·right;rw[Fp] at h2;exact⟨h1,fun j c' h3 h4 h5=>h2 j c' (jv _) h3 h4 h5⟩
 ·rintro(⟨j,c,hj,hl,hc,hq,hm⟩|⟨h1,h2⟩)
  ·left;refine⟨j,hj,?_⟩;have VT:listed.getD j false=true:=hl;rw[if_pos VT];exact CP.2 ⟨by rw[iw,hc];exact hq,Fp.2 fun j' c' h3 h4 h5 h6=>hm j' c' h3 h4 h5 h6⟩
  ·exact .inr ⟨h1,Fp.2 fun j c' _ h3 h4 h5=>h2 j c' h3 h4 h5⟩
def Gf(c:Ctx):asv (Nat×asv Nat):=c.map fun p=>(p.1,p.2.bO)
def ON{p:Nat×bN}(h:p∈c):(p.1,p.2.bO)∈Gf c:=qb.2 ⟨p,h,rfl⟩
def BU{p:Nat×bN}{l:asv Nat}(h:p∈c)(hl:p.1∈l):meets (Gf c) l=true:=
 MN.2 ⟨_,ON h,by simpa using hl⟩
def Q2{t:Nat}(h:meets (Gf c) [t]=true):t∈c.map (·.1):=by
 obtain⟨x,hx,hy⟩:=MN.1 h;obtain⟨y,hy1,rfl⟩:=qb.1 hx;simp at hy;exact qb.2 ⟨y,hy1,hy⟩
def ai0{m:Nat}(h:v7 listed m):m<listed.size:=by
 apply sU;intro W7;simp[v7,EK,Array.getElem?_eq_none<|Nat.le_of_not_lt W7] at h
def LA{Γ:Ctx}(gS:pU (ops.toList.take k)=true)(Nb:B4 ops av=true)(Rf:S4 k kl jb ja L av=true)(hkn:k<=ops.size)(OT:∀i,k<=i->i<ops.size->∀j,j<k->j∈av.getD i [])
 (Qn:S.reverse.map Gf=kl)(hL:sF Γ=L)
 (hp:bT P N ops Γ [] (ops.toList.take k) jb ja S)(C2:vi (S.flatten++Γ) ts DN)
 (SS:∀(fuel:Nat) (listed:auA Bool) (a:Act) (w:aq5) (H:HV),listed.size=ops.size->(∀j,j<ops.size->(v7 listed j↔j<k))->(∀m,v7 listed m->∀j∈av.getD m [],v7 listed j)->unl listed<=fuel->Sat w0 H0 N DN a w H->xm (iP w0.rd) P ops Q fuel listed a w):
  ∀(fuel:Nat) (listed:auA Bool) (a:Act) (w:aq5) (H:HV),listed.size=ops.size->(∀m,v7 listed m->∀j∈av.getD m [],v7 listed j)->(∀i,k<=i->i<ops.size-> ¬v7 listed i)->
   unl listed<=fuel->Sat w0 H0 N (Wi listed S.reverse k Γ) a w H->xm (iP w0.rd) P ops Q fuel listed a w:=by
 obtain⟨⟨S',hS',hlen⟩,hnl,SO,hat⟩:=hp.at_;have hSl:S.length=k:=by rw[hS'];simp[hlen,hkn]
 have ajd:jb.length=k:=by rw[hnl];simp[hkn]
 have alQ:ja.length=k:=by rw[SO];simp[hkn]
 have key:∀j c,S.reverse[j]? =some c->kl.getD j []=Gf c:=by
  intro j c h;rw[<-Qn,iw,nS,h]
  rfl
 simp only[S4,cW] at Rf;obtain⟨hc1,Ve⟩:=Rf;have aj2:∀i j (ci cj:Ctx),i<j->j<k->S.reverse[i]? =some ci->S.reverse[j]? =some cj->((∃p∈ci,p.1∈jb.getD j [])\/(∃p∈ci,∃q∈cj,p.1=q.1)\/(∃p∈cj,p.1∈jb.getD i []))->i∈av.getD j []:=by
  intro i j ci cj VU hj h1 h2 h3;simp only[dC,wJ,qd,jj,Bj] at hc1;rcases hc1 j hj i VU with h|h
  ·rw[key i ci h1,key j cj h2] at h;simp only[zL] at h;exfalso;rcases h3 with⟨p,hp,h3⟩|⟨p,hp,q,hq,h3⟩|⟨p,hp,h3⟩
   ·have:=BU hp h3;rw[h.1.1] at this;cases this
   ·have:=BU (l:=(Gf cj).map (·.1)) hp (by rw[h3];exact qb.2 ⟨_,ON hq,rfl⟩);rw[h.1.2] at this;cases this
   ·have:=BU hp h3;rw[h.2] at this;cases this
  ·exact h
 have lean:∀j (cj:Ctx),j<k->ja.getD j true=true->S.reverse[j]? =some cj->∀p∈cj.take 1,(p.1∉L)/\∀i (ci:Ctx),i<k->S.reverse[i]? =some ci->∀q∈ci,p.1∈q.2.bO->(i≠j/\(q.1∈cj.map (·.1)\/j∈av.getD i []\/∃m,m∈av.getD j []/\i<m/\meets (kl.getD m []) [q.1]=true))\/(i=j/\∀p'∈cj.take 1,p'.1≠q.1):=by
  intro j cj hj hpj h1 p hp;have tk:(Gf cj).take 1=Gf (cj.take 1):=by simp[Gf,List.map_take]
  simp only[dC,wJ,qd,jj,cW] at Ve;rcases Ve j hj with h|⟨h2,h3⟩
  ·rw[hpj] at h;cases h
  ·rw[key j cj h1,tk] at h2;refine⟨(fun hm=>by have:=BU hp hm;rw[h2] at this;cases this),fun i ci hi h4 q hq h5=>?_⟩;have h6:=h3 i hi (q.1,q.2.bO) (by rw[key i ci h4];exact ON hq);have h6:=h6 p.1 h5;simp only[qd,jj,cW,p9,ne_eq,Bj] at h6;rcases h6 with(h6|⟨h6,(h7|h7)|h7⟩)|⟨h6,h7⟩
   ·have:=BU (l:=[p.1]) hp (by simp);rw[key j cj h1,tk] at h6;rw[h6] at this;cases this
   ·refine .inl ⟨h6,.inl ?_⟩;rw[key j cj h1] at h7;exact Q2 h7
   ·exact .inl ⟨h6,.inr<| .inl h7⟩
   ·obtain⟨m,hm,h8⟩:=MN.1 h7;simp only[cW,zI] at h8;exact .inl ⟨h6,.inr<| .inr ⟨m,hm,h8.1,h8.2⟩⟩
   ·refine .inr ⟨by simpa using h6,fun p' hp' e=>?_⟩;rw[key j cj h1,tk] at h7;have:=BU (l:=[q.1]) hp' (by simp[e]);rw[h7] at this;cases this
 have pure:∀i o,i<k->ops[i]? =some o->∃c,S.reverse[i]? =some c/\aeA P N ops Γ (jb.getD i []) (ja.getD i true) S.reverse i o c:=by
  intro i o hi ho;have e1:jb[i]? =some (jb.getD i []):=by simp[iw,ajd,hi]
  have e2:ja[i]? =some (ja.getD i true):=by simp[iw,alQ,hi]
  obtain⟨p,h1,h2⟩:=hat i o _ _ (by rw[List.getElem?_take_of_lt hi];simpa using ho) e1 e2;exact⟨p,by simpa using h1,by simpa using h2⟩
 have toTail:∀(fuel:Nat) (listed:auA Bool) (a:Act) (w:aq5) (H:HV),listed.size=ops.size->(∀m,v7 listed m->∀j∈av.getD m [],v7 listed j)->(∀i,k<=i->i<ops.size-> ¬v7 listed i)->
   unl listed<=fuel->(∀j,j<k->v7 listed j)->Sat w0 H0 N (Wi listed S.reverse k Γ) a w H->xm (iP w0.rd) P ops Q fuel listed a w:=by
  intro fuel listed a w H hsz hc Qn hu hall df;refine SS fuel listed a w H hsz ?_ hc hu<|df.weaken ?_
  ·intro j hj;constructor
   ·intro h;apply sU;intro W7;exact Qn j (by omega) hj h
   ·exact hall j
  ·intro q hq;have hat:=HJ (S:=S.reverse) (fun j _=>rfl)<|C2.looks q hq
   rw[hSl] at hat;rw[w4];rcases hat with⟨j,c,hj,h1,h1',h2⟩|⟨h1,h2⟩
   ·exact .inl ⟨j,c,hj,hall j hj,h1,h1',fun j' q' h3 h4 _ h5=>h2 j' q' h3 h4 h5⟩
   ·exact .inr ⟨h1,fun j q' h3 _ h5=>h2 j q' h3 h5⟩
 intro fuel
 induction fuel with
 |zero=>
  intro listed a w H hsz hc Qn hu df;exact toTail 0 listed a w H hsz hc Qn hu (fun j hj=>NS (by omega) (by omega)) df
 |succ f ih=>
  intro listed a w H hsz hc Qn hu df;by_cases hall:∀j,j<k->v7 listed j
  ·exact toTail (f+1) listed a w H hsz hc Qn hu hall df
  ·have⟨j0,hj0,hn0⟩:∃j,j<k/\ ¬v7 listed j:=by
    apply sU;intro apJ;exact hall fun j hj=>sU fun h=>apJ ⟨j,hj,h⟩
   refine⟨fun e=>absurd e (G8 Nb hsz (by omega) hn0),fun i hi=>?_⟩;obtain⟨o,ho,hni,_⟩:=(vB hsz).1 hi;have Qo:=(zO.1 ho).1;have W6:i<listed.size:=hsz▸Qo;have Me:=FZ Nb hsz hc hi;by_cases hik:i<k
   ·obtain⟨c,hp1,hp2⟩:=pure i o hik ho;obtain⟨dz,hex,bY⟩:=hp2.exec;have hin:∀q∈dz,q∈Wi listed S.reverse k Γ:=by
     intro q hq;obtain⟨hm,hx⟩:=bY q hq;have up:∀j' c',i<=j'->j'<k->v7 listed j'->S.reverse[j']? =some c'->∀q'∈c',q'.1≠q.1:=by
      intro j' c' h3 h4 h5 h6 q' hq' e;rcases Nat.lt_or_eq_of_le h3 with h3|h3
      ·have:=aj2 i j' c c' h3 h4 hp1 h6 (.inr<| .inr ⟨q',hq',e▸hm⟩);exact hni<|hc j' h5 i this
      ·subst h3;exact hni h5
     refine w4.2 ?_;rcases hx with⟨j,cj,hj,hqj,hqc,KL⟩|⟨hx,KL⟩
     ·refine .inl ⟨j,cj,by omega,Me j<|aj2 j i cj c hj hik hqj hp1<| .inl ⟨q,hqc,hm⟩,hqj,hqc,fun j' c' h3 h4 h5 h6=>?_⟩;rcases ln j' i with h7|h7
      ·exact KL j' c' h3 h7 h6
      ·exact up j' c' h7 h4 h5 h6
     ·refine .inr ⟨hx,fun j' c' h4 h5 h6=>?_⟩;rcases ln j' i with h7|h7
      ·exact KL j' c' h7 h6
      ·exact up j' c' h7 h4 h5 h6
    have tu:ja.getD i true=true->∀q∈Wi listed S.reverse k Γ,q.1∉c.map (·.1)->∀p∈c.take 1,p.1∉q.2.bO:=by
     intro hpt q hq hnk p hp e;obtain⟨l1,l2⟩:=lean i c hik hpt hp1 p hp;rcases w4.1 hq with⟨j,cj,hj,hlj,hqj,hqc,KL⟩|⟨hq,_⟩
     ·rcases(l2 j cj hj hqj q hqc e).resolve_right (fun h=>by obtain⟨rfl,_⟩:=h;exact hni hlj)|>.2 with h|h
      ·exact hnk h
      ·rcases h with h|⟨m,hm,him,hme⟩
       ·exact hni<|hc j hlj i h
       ·have hlm:=Me m hm;have hmk:m<k:=by
         apply sU;intro W7;exact Qn m (by omega) (hsz▸ai0 hlm) hlm
        obtain⟨cm,hcm,_⟩:=pure m ops[m] hmk (by simp<;>omega);rw[key m cm hcm] at hme;obtain⟨y,hy1,hy2⟩:=qb.1<|Q2 hme
        exact KL m cm (by omega) hmk hlm hcm y hy1 hy2
     ·exact l1<|hL▸Ls hq e
    have U5:ja.getD i true=true->∀q∈c.take 1,∀p∈c.take 1,p.1∉q.2.bO:=by
     intro hpt q hq p hp e;rcases(lean i c hik hpt hp1 p hp).2 i c hik hp1 q (vV hq) e with h|h
     ·exact h.1 rfl
     ·exact h.2 q hq rfl
    obtain⟨Γn,yc,YG⟩:=hex _ hin tu U5;refine Fi ho (Cn gS (FK (i:=i) (by rw[List.getElem?_take_of_lt hik];simpa using ho)))<|yc w0 H0 a w H df _ Q fun a' w' H' OS=>?_
    refine ih _ _ w' H' (by simp[hsz]) ?_ ?_ ?_<|OS.weaken ?_
    ·intro m hm x hx;rw[qP W6] at hm⊢;rcases hm with hm|hm
     ·subst hm;exact .inr<|Me x hx
     ·exact .inr<|hc m hm x hx
    ·intro m hm1 hm2;rw[qP W6];rintro(h|h)
     ·omega
     ·exact Qn m hm1 hm2 h
    ·have:=RN W6 hni;omega
    ·intro q hq;refine YG q ?_;rcases w4.1 hq with⟨j,cj,hj,hlj,hqj,hqc,KL⟩|⟨hq,KL⟩
     ·by_cases hji:j=i
      ·subst hji;rw[hp1] at hqj;cases hqj;exact AI _ hqc
      ·have al1:v7 listed j:=by
        rw[qP W6] at hlj;rcases hlj with h|h
        ·exact absurd h hji
        ·exact h
       refine CD _ (zi.2 ⟨w4.2 (.inl ⟨j,cj,hj,al1,hqj,hqc,fun j' q' h3 h4 h5 h6=>KL j' q' h3 h4 (by rw[qP W6];exact .inr h5) h6⟩),fun e=>?_⟩);obtain⟨p,hp,e⟩:=qb.1 e;rcases ln i j with h7|h7
       ·exact hni<|hc j al1 i<|aj2 i j c cj h7 hj hp1 hqj<| .inr<| .inl ⟨p,hp,q,hqc,e⟩
       ·exact KL i c (by omega) hik (by rw[qP W6];exact .inl rfl) hp1 p hp e
     ·refine CD _ (zi.2 ⟨w4.2 (.inr ⟨hq,fun j q' h4 h5 h6=>KL j q' h4 (by rw[qP W6];exact .inr h5) h6⟩),fun e=>?_⟩);obtain⟨p,hp,e⟩:=qb.1 e;exact KL i c hik (by rw[qP W6];exact .inl rfl) hp1 p hp e
   ·exfalso;exact hn0 (Me j0 (OT i (by omega) Qo j0 hj0))
def Xl{Γ:Ctx}(gS:pU (ops.toList.take k)=true)(Nb:B4 ops av=true)(Rf:S4 k kl jb ja L av=true)(SM:yL ops k av=true)
 (Qn:S.reverse.map Gf=kl)(hL:sF Γ=L)
 (hp:bT P N ops Γ [] (ops.toList.take k) jb ja S)(C2:vi (S.flatten++Γ) ts DN)
 (SS:∀a w H,Sat w0 H0 N DN a w H->wpListIn (iP w0.rd) 0 P ops Q (ops.toList.drop k) a w):
  ∀(fuel:Nat) (listed:auA Bool) (a:Act) (w:aq5) (H:HV),listed.size=ops.size->(∀m,v7 listed m->∀j∈av.getD m [],v7 listed j)->(∀i,k<=i->i<ops.size-> ¬v7 listed i)->
   unl listed<=fuel->Sat w0 H0 N (Wi listed S.reverse k Γ) a w H->xm (iP w0.rd) P ops Q fuel listed a w:=by
 have ai5:=SM;simp only[yL,cW,dC,wJ,qd,zI,Bj] at ai5;have hkn:k<=ops.size:=ai5.1;refine LA gS Nb Rf hkn (fun i hi hn j hj=>?_) Qn hL hp C2 fun fuel listed a w H hsz hl hc hu hs=>V8 Nb SM _ k fuel listed a w rfl (bG _) hkn hsz hl hc hu<|SS a w H hs
 rcases ai5.2 i hn with h|h
 ·omega
 ·exact h j (by omega)
def XO{Γ:Ctx}{id:Nat}(hm:P.follows .mixedOrders=true)(gS:pU (ops.toList.take k)=true)(Nb:B4 ops av=true)(Rf:S4 k kl jb ja L av=true)(SM:yL ops k av=true)
 (Qn:S.reverse.map Gf=kl)(hL:sF Γ=L)
 (hp:bT P N ops Γ [] (ops.toList.take k) jb ja S)(C2:vi (S.flatten++Γ) ts DN)
 (SS:∀a w H,Sat w0 H0 N DN a w H->wpListIn (iP w0.rd) 0 P ops Q (ops.toList.drop k) a w)
 {H:HV}(hs:Sat w0 H0 N Γ a w H):(Code.region id ops true).wpIn (iP w0.rd) 0 P Q a w:=by
 refine Dm hm (Xl gS Nb Rf SM Qn hL hp C2 SS ops.size _ a _ H (by simp) ?_ ?_ ?_ ?_)
 ·intro m h;exact absurd h kU
 ·intro i _ hi h;exact absurd h kU
 ·simp[unl]
 ·have he:Ext w H {w with drawn:=w.drawn+1} H:=⟨⟨⟨rfl,rfl,rfl,bG _,fun _ _=>rfl⟩,HU.of<|wF _⟩,HV.le.refl _,fun _ _=>rfl,hs.sub⟩;refine(El hs he).weaken fun q hq=>?_
  rcases w4.1 hq with⟨j,_,_,hl,_⟩|⟨hq,_⟩
  ·exact absurd hl kU
  ·exact hq
end
section
variable[D:DR]
def Goal(P:ast)(w0:an P)(H0:HV)(N:Nat)(c:Code)(Q:Exit->Act->aq5->Prop)(Γ:Ctx):Prop:=
 ∀a w H,Sat w0 H0 N Γ a w H->c.wpIn (iP w0.rd) 0 P Q a w
def me{P:ast}(w0:an P)(H0:HV)(N:Nat)(K:Act->aq5->Prop)(Γ:Ctx):Prop:=∀a w H,Sat w0 H0 N Γ a w H->K a w
end
section
variable[D:DR]
variable{P:Program}{w0:an P}{H0:HV}{N:Nat}{Q:Exit->Act->World->Prop}{Γ ay:Ctx}
variable{w:aq5}{ρ:Type}{a:Act}{fn:Func}{c:Code}{r:ρ}{H:HV}{args:asv Ty}{id:Nat}{ts:asv Nat}{n:Nat}{α:Type}{f:FuncId}{E:asr}{sz:Nat}{rs:asv ResultVar}{l:asv Ty}{x:Code}{t:Nat}{b:Bool}{K:α->auz ρ}
def ae{y:Code}(h:Goal P w0 H0 N x (Exit.then (y.wpIn (iP w0.rd) 0 P Q) Q) Γ):Goal P w0 H0 N (.seq x y) Q Γ:=fun a w H hs=>wpIn_seq<|h a w H hs
def EP{l:asv Oper}(gS:pU l=true)(h:fP P w0 N l.toArray l Γ ay)(k:me w0 H0 N (Q .normal) ay):Goal P w0 H0 N (.region id l.toArray false) Q Γ:=
 fun a w H hs=>wpIn_region_lit<|h.sound gS H0 a w H hs Q k
def SZ{ops:auA Oper}{k:Nat}{S:asv Ctx}{DN:Ctx}(gS:pU ops.toList=true)(kl:asv (asv<|Nat×asv Nat))(L:asv Nat)(av jb:asv (asv Nat))(ja:asv Bool)(hm:P.follows .mixedOrders=true)(hc:(B4 ops av&&S4 k kl jb ja L av&&yL ops k av)=true)
 (hp:bT P N ops Γ [] (ops.toList.take k) jb ja S)(Qn:S.reverse.map Gf=kl)(hL:sF Γ=L)(C2:vi (S.flatten++Γ) ts DN)(SS:fP P w0 N ops (ops.toList.drop k) DN ay)(kk:me w0 H0 N (Q .normal) ay):Goal P w0 H0 N (.region id ops true) Q Γ:=by
 simp only[cW] at hc;have h1:pU (ops.toList.take k)=true:=dC.2 fun o ho=>dC.1 gS o<|vV ho
 have h2:pU (ops.toList.drop k)=true:=dC.2 fun o ho=>dC.1 gS o<|zK ho
 exact fun a w H hs=>XO hm h1 hc.1.1 hc.1.2 hc.2 Qn hL hp C2 (H0:=H0) (fun a w H hs=>SS.sound h2 H0 a w H hs Q kk) hs
def ai(k:me w0 H0 N (Q .normal) Γ):Goal P w0 H0 N .skip Q Γ:=fun a w H hs=>wpIn_skip<|k a w H hs
def al(k:me w0 H0 N (Q .ret) Γ):Goal P w0 H0 N .ret Q Γ:=fun a w H hs=>wpIn_ret<|k a w H hs
def aN(k:me w0 H0 N (Q<| .exit id) Γ):Goal P w0 H0 N (.exit id) Q Γ:=fun a w H hs=>wpIn_exit<|k a w H hs
def ah(h:Goal P w0 H0 N c (Exit.inBlock id Q) Γ):Goal P w0 H0 N (.block id c) Q Γ:=fun a w H hs=>wpIn_block<|h a w H hs
def sY{y:Code}(hl:look Γ t=some (.val<|aZ b))(hx:b=true->Goal P w0 H0 N x Q Γ)(hy:b=false->Goal P w0 H0 N y Q Γ):Goal P w0 H0 N (.cond (.tmp t) x y) Q Γ:=by
 intro a w H hs;have hv:aX a t= .bool b:=hs.holds _<|az hl
 exact wpIn_cond_split (t:=b) hv (fun h=>hx h a w H hs)<|fun h=>hy h a w H hs
def mz(h:vi Γ ts ay)(k:Goal P w0 H0 N c Q ay):Goal P w0 H0 N c Q Γ:=fun a w H hs=>k a w H<|hs.weaken h.sub
def wp_loop_ghost{F:Fence}{ι:Type}(I:ι->Act->aq5->Prop)(μ:ι->Nat)(i0:ι)(aoN:I i0 a w)
 (round:∀i x y,I i x y->c.wpIn F n P (Exit.then (fun a' w'=>∃j,I j a' w'/\μ j<μ i) Q) x y):(Code.loop c).wpIn F n P Q a w:=by
 intro b k cs hro hb hr;have key:∀n i a w,μ i=n->I i a w->∃e a' w',Q e a' w'/\ArrivesIn (Machine.fenced P F) P (lone (b.atR a (.code c:: .inLoop c::k)) cs w) b k cs e a' w':=by
  intro n
  induction n using Nat.strongRecOn with
  |_ n ih=>
   intro i a w hn hI;obtain⟨e,a1,w1,hq,Vg⟩:=round i a w hI b (.inLoop c::k) cs hro hb hr;cases e with
   |normal=>
    obtain⟨j,hj,hlt⟩:=hq;obtain⟨e2,a2,w2,hq2,amB⟩:=ih (μ j) (hn▸hlt) j a1 w1 rfl hj;exact⟨e2,a2,w2,hq2,.of_steps (StepsIn.trans Vg<| .one (fenced_calm hb hr rfl) stepR_inLoop) amB⟩
   |exit id=>exact⟨_,a1,w1,hq,.pass (x:= .inLoop c) rfl (fun _ _=> .inl (by simp)) Vg⟩
   |goto l=>exact⟨_,a1,w1,hq,.pass (x:= .inLoop c) rfl (fun _ _=> .inl (by simp)) Vg⟩
   |ret=>exact⟨_,a1,w1,hq,.pass (x:= .inLoop c) rfl (fun _ _=> .inl (by simp)) Vg⟩
   |panic ch=>exact⟨_,a1,w1,hq,.pass (x:= .inLoop c) rfl (fun _ _=> .inl (by simp)) Vg⟩
   |outgrown=>exact⟨_,a1,w1,hq,.pass (x:= .inLoop c) rfl (fun _ _=> .inl (by simp)) Vg⟩
 obtain⟨e,a',w',hq,Vg⟩:=key _ i0 a w rfl aoN;exact⟨e,a',w',hq,.of_steps (.one (fenced_calm hb hr rfl) stepR_loop) Vg⟩
def C7(h:qY w0 N Γ ay)(k:Goal P w0 H0 N c Q ay):Goal P w0 H0 N c Q Γ:=fun a w H hs=>by
 obtain⟨H',pN⟩:=h H0 a w H hs;exact k a w H' pN
def fL{K:Act->aq5->Prop}(h:qY w0 N Γ ay)(k:me w0 H0 N K ay):me w0 H0 N K Γ:=fun a w H hs=>by
 obtain⟨H',pN⟩:=h H0 a w H hs;exact k a w H' pN
def bd{α ρ:Type}(e:auz α)(K:α->auz ρ):auz ρ:=match e with
 |none=>none
 |some x=>K x
def gC{ρ:Type}(c:Bool)(K:auz ρ):auz ρ:=match c with
 |true=>K
 |false=>none
def fT{α ρ:Type}(g:Bool)(d:α)(e:auz α)(K:α->auz ρ):auz ρ:=match g with
 |true=>bd e K
 |false=>K d
def jn{α ρ:Type}(K:α->auz ρ)(E:(α->auz ρ)->auz ρ):auz ρ:=E K
def lp{σ ρ:Type}:Nat->((σ->auz ρ)->σ->auz ρ)->σ->auz ρ
 |0,_,_=>none
 |n+1,B,s=>B (lp n B) s
def aA{e:auz α}(h:bd e K=some r):∃x,e=some x/\K x=some r:=by
 cases e with
 |none=>cases h
 |some x=>exact⟨x,rfl,h⟩
def wL{c:Bool}{K:auz ρ}(h:gC c K=some r):c=true/\K=some r:=by
 cases c
 ·cases h
 ·exact⟨rfl,h⟩
def pW{g:Bool}{d:α}{e:auz α}(h:fT g d e K=some r):∃x,(g=true->e=some x)/\K x=some r:=by
 cases g
 ·exact⟨d,(fun e=>nomatch e),h⟩
 ·obtain⟨x,h1,h2⟩:=aA h;exact⟨x,fun _=>h1,h2⟩
def aj3{x y:auz ρ}{r:auz ρ}(h:cond b x y=r)(hb:b=true):x=r:=by subst hb;exact h
def aj4{x y:auz ρ}{r:auz ρ}(h:cond b x y=r)(hb:b=false):y=r:=by subst hb;exact h
def Mid{P:ast}{α ρ:Type}(w0:an P)(H0:HV)(N:Nat)(Ng:α->Ctx)(k:α->auz ρ)(r:ρ)(a:Act)(w:aq5):Prop:=∃i,k i=some r/\∃H,Sat w0 H0 N (Ng i) a w H
def ER(Ng:α->Ctx){E:(α->auz ρ)->auz ρ}(hm:jn K E=some r)
 (h:∀k,E k=some r->Goal P w0 H0 N x (Exit.then (Mid w0 H0 N Ng k r) Q) Γ)(kk:∀i,K i=some r->me w0 H0 N (Q .normal) (Ng i)):Goal P w0 H0 N x Q Γ:=
 fun a w H hs=>CF (h K hm a w H hs) fun e a' w' q=>by
  cases e with
  |normal=>obtain⟨i,hi,H',pN⟩:=q;exact kk i hi a' w' H' pN
  |_=>exact q
def anf{Ng:α->Ctx}{k:α->auz ρ}{i:α}(hm:k i=some r)(h:vi Γ ts (Ng i)):me w0 H0 N (fun a w=>Mid w0 H0 N Ng k r a w) Γ:=
 fun _ _ H hs=>⟨i,hm,H,hs.weaken h.sub⟩
def adI{σ:Type}(dz:σ->Ctx){B:(σ->auz ρ)->σ->auz ρ}{s0:σ}(hm:lp n B s0=some r)(h0:vi Γ ts (dz s0))
 (round:∀(k:σ->auz ρ) (s:σ),B k s=some r->Goal P w0 H0 N c (Exit.then (Mid w0 H0 N dz k r) Q) (dz s)):Goal P w0 H0 N (.loop c) Q Γ:=by
 intro a w H hs;refine wp_loop_ghost (fun(i:Nat×σ) a w=>lp i.1 B i.2=some r/\∃H,Sat w0 H0 N (dz i.2) a w H) (fun i=>i.1) (n,s0) ⟨hm,H,hs.weaken h0.sub⟩ ?_;rintro⟨m,s⟩ a w ⟨hl,H,hs⟩;cases m with
 |zero=>cases hl
 |succ m=>
  refine CF (round (lp m B) s hl a w H hs) fun e a' w' q=>?_
  cases e with
  |normal=>obtain⟨i,hi,H',pN⟩:=q;exact⟨(m,i),⟨hi,H',pN⟩,Nat.lt_succ_self m⟩
  |_=>exact q
inductive Ze where
 |vs(l:asv Ty)
 |fr(E:asr)(sz:Nat)(l:asv Ty)
def wU(H:HV):asv Ty->aq6->Prop
 |[τ],v=>τ.ok H v
 |l,v=>∃vs,v= .tuple vs/\Ct H l vs.toList
def Ze.holds(n:Nat)(w:aq5)(H:HV)(v:aq6):Ze->Prop
 | .vs l=>wU H l v
 | .fr E sz l=>∃xs,w.ownsRow 0 E sz v l.length xs/\vH H l xs/\∀b,v.ownBlock=some b->n<=b/\H b=none
def eN(P:ast)(f:FuncId):Bool:=
 match P.funcs[f]? with
 |some fn=>fn.body.isSome&& !(fn.name== "runtime.NumGoroutine")
 |none=>false
def Returns(w:aq5)(H:HV)(dq:Ze)(e:Ending)(w':aq5):Prop:=
 ∃v,e= .returned v/\F4 w.heap.size w w'/\∃H',(∀r,r<w.heap.size->H' r=H r)/\(∀r o,H' r=some o->w'.heap[r]? =some o)/\dq.holds w.heap.size w' H' v
structure fC(P:ast)(f:FuncId)(args:asv Ty)(dq:Ze):Prop where
 can:eN P f=true
 run:∀(w:aq5) (H:HV) (vs:asv aq6),(∀r o,H r=some o->w.heap[r]? =some o)->qn P H->Ct H args vs->Calls P f vs.toArray w (Returns w H dq)
def fC.aof{dq:Ze}(h: @fC DR.strict P f args dq):fC P f args dq:=
 ⟨fC.can (D:=DR.strict) h,fun w H vs sub gl ha=>(fC.run (D:=DR.strict) h w H vs sub gl ha).mono fun e w' ⟨v,e1,hb,r⟩=>⟨v,e1,⟨F4.toBelow (D:=DR.strict) hb,HU.of<|F4.drawn (D:=DR.strict) hb⟩,r⟩⟩
def lQ:Nat->asv Ty->Ctx
 |_,[]=>[]
 |i,τ::l=>(i,.val τ)::lQ (i+1) l
def AN{H:HV}{B:an P}{a:Act}{w:aq5}:∀{l:asv Ty} {vs:asv aq6} (i:Nat),Ct H l vs->(∀j v,vs[j]? =some v->aX a (i+j)=v)->∀p∈lQ i l,p.2.holds B a w H (aX a p.1)
 |[],_,_,_,_,p,hp=>by simp[lQ] at hp
 |τ::l,_,i,⟨v,rest,e,hv,hr⟩,hg,p,hp=>by
  subst e;simp only[lQ,bP] at hp;rcases hp with e|hp
  ·subst e;have:=hg 0 v rfl;simp only[ux] at this;rw[this];exact hv
  ·exact AN (i+1) hr (fun j v hj=>by have:=hg (j+1) v (by simpa using hj);rw[<-this];congr 1;omega) p hp
def HC{w:aq5}{v:aq6}{b:Nat}:∀{l:asv Ty} {i:Nat},∀p∈lQ i l,¬p.2.owns w v b
 |[],_,p,hp=>by simp[lQ] at hp
 |τ::l,i,p,hp=>by
  simp only[lQ,bP] at hp;rcases hp with e|hp
  ·subst e;exact fun h=>h
  ·exact HC p hp
def Ri{vs:asv aq6}(sub:∀r o,H r=some o->w.heap[r]? =some o)(gl:qn P H)(gS:Ct H args vs)(hn:args.length<=n):
  Sat (an.call P w) H n (lQ 0 args) {tmps:=vs.toArray++Array.replicate (n-vs.toArray.size) undef,defers:=[]} w H:=by
 have hl:=Am gS;refine⟨trivial,by simp;omega,⟨rfl,rfl,rfl,bG _,bG _,fun _ _ _ _=>rfl⟩,fun _ _ _ _=>rfl,sub,?_,?_,gl⟩
 ·refine AN 0 gS fun j v hj=>?_
  have PQ:=(jk.1 hj).1;have e:(vs.toArray++Array.replicate (n-vs.toArray.size) undef)[0+j]? =some v:=by
   rw[Array.getElem?_append_left (by simpa using PQ)];simpa using hj
  simp[aX,EK];simp at e;rw[e];rfl
 ·intro p hp q _ _ b hb;exact absurd hb<|HC p hp
inductive bu(P:ast)(Γ:Ctx):asv ResultVar->asv Ty->Prop where
 |nil:bu P Γ [] []
 |tmp {t:Nat} {τ Fc:Ty} {rs:asv ResultVar} {l:asv Ty} (h:look Γ t=some (.val τ)) (hi:τ=Fc) (r:bu P Γ rs l):bu P Γ (.tmp t::rs) (Fc::l)
 |cell {t T:Nat} {T':asr} {τ Fc:Ty} {rs:asv ResultVar} {l:asv Ty} (h:look Γ t=some (.own T' τ)) (hT:∀(w:aq5) (b:Nat) (x:aq6) (E:asr),w.heap[b]? =some (.cells x.cells E (0,0))->Shape τ.n τ.agg x->(loadVar T ⟨b,0,none⟩).run P w= .ok x w)
   (hi:τ=Fc) (r:bu P Γ rs l):bu P Γ (.cell t T::rs) (Fc::l)
def BK(tmps:auA aq6):ResultVar->Sem aq6
 | .tmp t=>pure<|tmps.getD t undef
 | .cell a t=>do loadVar t (<-asAddr (tmps.getD a undef))
def De{bl:asv Ty}{H':HV}{B:an P}{v:aq6}(h:(bN.buf E sz bl).holds B a w H v)(hle:HV.le H H')(hw:∀b,v.ownBlock=some b->B.mY b->∀o,w.heap[b]? =some o->H' b=some o):(J5 bl).ok H' v:=by
 obtain⟨xs,⟨hx,hc⟩,ho,hn⟩:=h;rcases hc with⟨e,hl⟩|⟨g,cap,cur,e,hB,hg,hcap,hm,hcs,ht⟩
 ·subst e;exact⟨none,0,by rw[hl],by omega,fun hne=>absurd (sW hl) hne⟩
 ·subst e;refine⟨_,cap,rfl,hcap,fun _=>⟨g,0,cur,E,(0,0),rfl,hw g rfl (hn g rfl).2 _ hg,?_,?_⟩⟩
  ·have h1:=oD ho;have h2:xs.length<=cur.size:=by rw[<-ht];simp;exact Nat.min_le_right _ _
   omega
  ·have h1:=oD ho;rw[yF,<-h1,hx,ht];exact tU hle ho
def bu.run{rs:asv ResultVar}{l:asv Ty}(h:bu P Γ rs l){a:Act}{w:aq5}{H:HV}(hs:Sat w0 H0 N Γ a w H):
  ∃vs,(rs.mapM<|BK a.tmps).run P w= .ok vs w/\Ct H l vs:=by
 induction h with
 |nil=>exact⟨[],by simp,rfl⟩
 | @tmp t τ Fc rs l h hi _ ih=>
  subst hi;obtain⟨vs,h1,h2⟩:=ih;have hv:τ.ok H (aX a t):=hs.holds _<|az h
  refine⟨aX a t::vs,?_,_,_,rfl,hv,h2⟩;simp only[List.mapM_cons,fh,h1,BK,pj,eQ]
  rfl
 | @cell t T T' τ Fc rs l h hT hi _ ih=>
  subst hi;obtain⟨vs,h1,h2⟩:=ih;obtain⟨b,x,e,hb,hx,hn,hB⟩:=hs.holds _<|az h
  refine⟨x::vs,?_,_,_,rfl,hx,h2⟩;have e':a.tmps.getD t undef= .pointer (some ⟨b,0,none⟩):=e;simp only[List.mapM_cons,fh,BK,e',asAddr,pj,eQ,hT w b x T' hb<|τ.shape hx,h1]
def Dj(P:ast)(fn:Func)(w0:an P)(H0:HV)(dq:Ze):Exit->Act->aq5->Prop:=bodyPostM (iP none) 0 P fn<|Returns w0.w H0 dq
def tq{w0:an P}{H0:HV}{N:Nat}{Γ:Ctx}{a:Act}{fn:Func}{R:Ending->aq5->Prop}{F:Fence}{n:Nat}(hds:w0.ds=[])(VS:w0.rd=none):∀{ds:asv Deferred} {w:aq5} {H:HV},Sat w0 H0 N Γ {a with defers:=ds} w H->
  (∀w' H',Sat w0 H0 N Γ {a with defers:=[]} w' H'->∃v,(results fn a.tmps).run P w'= .ok v w'/\R (.returned v) w')->LeavesInM F n P fn a.tmps R ds .returning w
 |[],w,H,hs,k=>k w H hs
 |d::ds,w,H,hs,k=>by
  have Rf:=hs.nd;rw[hds,wK] at Rf;obtain⟨⟨D,e,h1,h2,h3,h4⟩,hr⟩:=Rf;have h1:=h1 VS;subst e;refine⟨(by simp),.inl ⟨D,_,rfl,run_takeDeferred h2,?_⟩⟩;refine tq hds VS (H:=H) ?_ k;have hg:AO w (w.putObj D<| .deferred none) (some D):=⟨⟨rfl,rfl,rfl,by simp,fun j _ hj=>JA (fun e=>hj (by rw[e]))⟩,bG _⟩;have hne:∀b,b≠D->(w.putObj D<| .deferred none).heap[b]? =w.heap[b]? :=fun b hb=>JA hb
  refine BJ (a:={a with defers:={target:= .collected D,args:= #[]}::ds}) hs (hs.below.BE hg fun j e=>by cases e;exact .inl h1) hg.drawn (fun _ _ _ _=>rfl) (by simp) (HV.le.refl _) ?_ ?_ ?_ ?_
  ·intro r o h;rw[hne r (fun e=>by subst e;rw[h3] at h;cases h)];exact hs.sub r o h
  ·intro _ b _ hb;exact⟨hne b (fun e=>by subst e;have:=an.lo_le (b:=w0);omega),rfl⟩
  ·intro p hp;refine⟨hp,fun b hb=>⟨hne b fun e=>?_,rfl⟩⟩;subst e;obtain⟨_,_,o,ho,WY⟩:=bN.mh (hs.holds p hp) hb;rw[h2] at ho;cases ho;exact WY
  ·have:∀{l:asv Deferred},(∀e∈l,e≠{target:= .collected D,args:= #[]})->Marks w0 w H l->Marks w0 (w.putObj D<| .deferred none) H l:=by
    intro l
    induction l with
    |nil=>exact fun _ _=>trivial
    |cons x l ih=>
     rintro hn ⟨⟨D',e,g1,g2,g3,g4⟩,gr⟩;have hD:D'≠D:=fun eD=>hn x (by simp) (by rw[e,eD])
     exact⟨⟨D',e,g1,by rw[hne D' hD];exact g2,g3,g4⟩,ih (fun y hy=>hn y (by simp[hy])) gr⟩
   rw[hds,wK];exact this h4 hr
def za(hr:fn.results=rs.toArray)(tmps:auA aq6):results fn tmps=(do let vs<-List.toArray<$>rs.mapM (BK tmps);pure (if h:vs.size=1 then vs[0] else .tuple vs)):=by
 unfold results;rw[hr,List.mapM_toArray]
 congr 2
def afV{dq:asv Ty}(hX:(w0.X,w0.Qa,w0.ds,w0.rd)=(Tl,false,[],none))(hr:fn.results=rs.toArray)(h:bu P Γ rs dq)(hs:Sat w0 H0 N Γ a w H):
  LeavesInM (iP none) 0 P fn a.tmps (Returns w0.w H0<| .vs dq) a.defers .returning w:=by
 refine tq (congrArg (fun p=>p.2.2.1) hX) (congrArg (fun p=>p.2.2.2) hX) (a:=a) (ds:=a.defers) hs fun w H hs=>?_
 have hX':w0.X=Tl:=congrArg Prod.fst hX;have hV:w0.Qa=false:=congrArg (fun p=>p.2.1) hX;obtain⟨vs,h1,h2⟩:=h.run hs;have hl:=Am h2;rw[za hr];simp only[fh,Sem.run_map,h1,eQ,pj];refine⟨_,rfl,_,rfl,hs.below.below hX' hV,H,(fun r hr=>hs.J4 hV r hr (by rw[hX'];exact fun h=>h)),hs.sub,?_⟩
 match dq,h2,hl with
 |[],h2,hl=>
  have:vs=[]:=h2;subst this;exact⟨#[],rfl,rfl⟩
 |[τ],h2,hl=>
  obtain⟨v,rest,e,hv,hr⟩:=h2;have:rest=[]:=hr;subst this;subst e;exact hv
 |τ::Fc::l,h2,hl=>
  have: ¬vs.toArray.size=1:=by simp[hl]
  rw[dif_neg this];exact⟨vs.toArray,rfl,by simpa using h2⟩
def Wu{l':asv Ty}(hX:(w0.X,w0.Qa,w0.ds,w0.rd)=(Tl,false,[],none))(hr:fn.results=[.tmp t].toArray)(h:look Γ t=some (.buf E sz l))(hi:l=l')(hs:Sat w0 H0 N Γ a w H):
  LeavesInM (iP none) 0 P fn a.tmps (Returns w0.w H0<| .fr E sz l') a.defers .returning w:=by
 subst hi;refine tq (congrArg (fun p=>p.2.2.1) hX) (congrArg (fun p=>p.2.2.2) hX) (a:=a) (ds:=a.defers) hs fun w H hs=>?_
 have hX':w0.X=Tl:=congrArg Prod.fst hX;have hV:w0.Qa=false:=congrArg (fun p=>p.2.1) hX;obtain⟨xs,h1,h2,h3⟩:=hs.holds _<|az h
 rw[za hr];refine⟨aX a t,?_,_,rfl,hs.below.below hX' hV,H,(fun r hr=>hs.J4 hV r hr (by rw[hX'];exact fun h=>h)),hs.sub,xs,h1,h2,fun b hb=>⟨?_,(h3 b hb).1⟩⟩
 ·simp[BK,aX]
 ·rcases(h3 b hb).2 with h|h
  ·exact h
  ·rw[hX'] at h;exact h.elim
def gp{dq:asv Ty}(hX:(w0.X,w0.Qa,w0.ds,w0.rd)=(Tl,false,[],none))(hr:fn.results=rs.toArray)(h:bu P Γ rs dq):me w0 H0 N (fun a w=>Dj P fn w0 H0 (.vs dq) .ret a w) Γ:=fun _ _ _ hs=>afV hX hr h hs
def xL{l':asv Ty}(hX:(w0.X,w0.Qa,w0.ds,w0.rd)=(Tl,false,[],none))(hr:fn.results=[.tmp t].toArray)(h:look Γ t=some (.buf E sz l))(hi:l=l'):me w0 H0 N (fun a w=>Dj P fn w0 H0 (.fr E sz l') .ret a w) Γ:=fun _ _ _ hs=>Wu hX hr h hi hs
def Wb{dq:Ze}{N:Nat}(hf:P.funcs[f]? =some fn)(hb:fn.body=some c)(hN:fn.ntmps=N)(hn:args.length<=N)(hc:eN P f=true)
 (h:∀w0 H0,Goal P (an.call P w0) H0 N c (Dj P fn (an.call P w0) H0 dq)<|lQ 0 args):fC P f args dq:=by
 subst hN;exact⟨hc,fun w H _ sub gl gS=>(callsIn_wide (n:=0)).1<|callsIn_of_wp_marks (F:=Fence.wide) hf hb trivial<|h w H _ w H<|Ri sub gl gS hn⟩
def fC.congr{Ro:asv Ty}{dq xV:Ze}(h:fC P f args dq)(ha:args=Ro)(hr:dq=xV):fC P f Ro xV:=ha▸hr▸h
def fC.pub(h:fC P f args (.fr E sz l)):fC P f args (.vs [J5 l]):=
 ⟨h.can,fun w H vs sub gl gS=>(h.run w H vs sub gl gS).mono fun _ w' ⟨v,e,hb,H',h1,h2,xs,h3,h4,h5⟩=>by
  refine⟨v,e,hb,fun r=>if v.ownBlock=some r then w'.heap[r]? else H' r,?_,?_,?_⟩
  ·intro r hr;have:v.ownBlock≠some r:=fun e=>by have:=(h5 r e).1;omega
   simp[this,h1 r hr]
  ·intro r o ho;by_cases e:v.ownBlock=some r
   ·simpa[e] using ho
   ·simp only[e,if_false] at ho;exact h2 r o ho
  ·have hle:HV.le H' (fun r=>if v.ownBlock=some r then w'.heap[r]? else H' r):=by
    intro r o ho;by_cases e:v.ownBlock=some r
    ·rw[(h5 r e).2] at ho;cases ho
    ·simp[e,ho]
   exact De (a:=⟨#[],[]⟩) (B:=an.call P w) (w:=w') ⟨xs,h3,h4,fun b hb=>⟨(h5 b hb).2,.inl (h5 b hb).1⟩⟩ hle (fun b hb _ o hbo=>by simp[hb,hbo])⟩
end
section
variable[D:DR]
variable{P:Program}{N:Nat}{ops:Array Oper}{Γ ay:Ctx}
variable{s:bN}{τ:Ty}
def ju{o:Oper}(h:∀(w0:an P) (H0:HV) (N:Nat) (a:Act) (w:aq5) (H:HV),Sat w0 H0 N Γ a w H->
 ∃v w' H',(execOp a.eval o).run P w= .ok (.value v) w'/\Ext w H w' H'/\s.holds w0 a w' H' v/\∀b,s.owns w' v b->w.heap.size<=b):bK P Γ o s:=by
 intro w0 H0 N a w H hs K Q k;obtain⟨v,w',H',hr,he,hv,hb⟩:=h w0 H0 N a w H hs;unfold Oper.wp;rw[hr,uq];exact k v w' H' he hv hb
def bh{o:Oper}(h:∀(w0:an P) (H0:HV) (N:Nat) (a:Act) (w:aq5) (H:HV),Sat w0 H0 N Γ a w H->
 ∃v,(execOp a.eval o).run P w= .ok (.value v) w/\s.holds w0 a w H v/\s.free=true):bK P Γ o s:=
 ju fun w0 H0 N a w H hs=>by
  obtain⟨v,hr,hv,hb⟩:=h w0 H0 N a w H hs;exact⟨v,w,H,hr,Ext.refl hs.sub,hv,fun b e=>absurd e<|bN.free_spec hb⟩
def aac{o:Oper}(h:∀(w0:an P) (H0:HV) (N:Nat) (a:Act) (w:aq5) (H:HV),Sat w0 H0 N Γ a w H->
 ∃v,(execOp a.eval o).run P w= .ok (.value v) w/\s.holds w0 a w H v/\∀b,¬s.owns w v b):bK P Γ o s:=
 ju fun w0 H0 N a w H hs=>by
  obtain⟨v,hr,hv,hb⟩:=h w0 H0 N a w H hs;exact⟨v,w,H,hr,Ext.refl hs.sub,hv,fun b e=>absurd e<|hb b⟩
structure Arg(Γ:Ctx)(x:asu)(τ:Ty):Prop where
 ok:∀{P':ast} {w0:an P'} {H0:HV} {N:Nat} {a:Act} {w:aq5} {H:HV},Sat w0 H0 N Γ a w H->τ.ok H (a.eval x)
def Arg.t{t:Nat}{τ:Ty}(h:look Γ t=some (.val τ)):Arg Γ (.tmp t) τ:=⟨fun hs=>hs.holds _<|az h⟩
def Arg.o{t:Nat}{c:Bool}(h:look Γ t=some (.opt c<| .val τ))(hc:c=true):Arg Γ (.tmp t) τ:=⟨fun hs=>(hs.holds _<|az h).1 hc⟩
def Arg.int{k:IntKind}{n:Int}:Arg Γ (.const<| .int k n) (TI k n):=⟨fun _=>rfl⟩
def Arg.bool{b:Bool}:Arg Γ (.const<| .bool b) (aZ b):=⟨fun _=>rfl⟩
def Arg.aht:Arg Γ (.const<| .slice none 0 0) (J5 []):=⟨fun _=>⟨none,0,rfl,bG _,fun h=>absurd rfl h⟩⟩
def Arg.imp{x:asu}{Fc:Ty}(h:Arg Γ x τ)(hi:∀H v,τ.ok H v->Fc.ok H v):Arg Γ x Fc:=⟨fun hs=>hi _ _<|h.ok hs⟩
end
section
variable[D:DR]
variable{P:Program}{N:Nat}{ops:Array Oper}{Γ ay:Ctx}
variable{d:Option Tmp}{ty:TypeId}{pos:String}{af:Array Edge}{g:Option (Nat×Bool)}
variable{T:asr}{τ:Ty}{sz t off:Nat}{x:asu}{σ:Ty}{l:asv Ty}{b:Bool}{k:IntKind}{i:Int}{len n:Nat}{T':asr}{ix c:asu}{w:aq5}{cs:auA aq6}{t' o:Nat}{H:HV}
def IV(h:Arg Γ x τ):bK P Γ ⟨d,.move x,ty,pos,af,g⟩ (.val τ):=
 bh fun _ _ _ a _ _ hs=>⟨a.eval x,rfl,h.ok hs,rfl⟩
def aC(h:Arg Γ x τ):bK P Γ ⟨d,.assign x,ty,pos,af,g⟩ (.val τ):=
 bh fun _ _ _ a _ _ hs=>⟨a.eval x,rfl,h.ok hs,rfl⟩
def wV(h:look Γ t=some (.J3 l)):bK P Γ ⟨d,.move<| .tmp t,ty,pos,af,g⟩ (.J3 l):=
 bh fun _ _ _ a _ _ hs=>⟨aX a t,rfl,hs.holds _<|az h,rfl⟩
def dW{i:Nat}(h:look Γ t=some (.J3 l))(hi:l[i]? =some τ):bK P Γ ⟨d,.extract (.tmp t) i,ty,pos,af,g⟩ (.val τ):=
 bh fun _ _ _ a w _ hs=>by
  obtain⟨vs,e,ho⟩:=hs.holds _<|az h
  obtain⟨v,hv,gS⟩:=acx ho hi;have e':a.eval (.tmp t)= .tuple vs:=e;refine⟨v,?_,gS,rfl⟩;have WU:vs[i]? =some v:=by simpa using hv
  simp[execOp,e',Instr.extract,WU]
def MA{y:asu}(hc:Arg Γ c (aZ b))(hx:b=true->Arg Γ x τ)(hy:b=false->Arg Γ y τ):bK P Γ ⟨d,.pick c x y,ty,pos,af,g⟩ (.val τ):=
 bh fun _ _ _ a w H hs=>by
  have e:a.eval c= .bool b:=hc.ok hs;refine⟨if b then a.eval x else a.eval y,?_,?_,rfl⟩
  ·simp[execOp,e,asBool]
  ·cases b
   ·simpa[bN.holds] using(hy rfl).ok hs
   ·simpa[bN.holds] using(hx rfl).ok hs
def j6(h:b=true):gd b true=true:=h
def jN(h:b=false):gd b false=true:=by subst h;rfl
def E9{c:Bool}(h:b=true)(k:c=true):(b&&c)=true:=by subst h;subst k;rfl
def dI{e x:Bool}(hc:Arg Γ c (aZ b))(hx:look Γ t=some (.opt e<| .val<|aZ x))(he:b=true->e=true):bK P Γ ⟨d,.pick c (.tmp t)<| .const<| .bool false,ty,pos,af,g⟩ (.val<|aZ<|b&&x):=by
 cases b
 ·exact MA hc (fun h=>by cases h)<|fun _=>Arg.bool
 ·exact MA hc (fun _=>by simpa using Arg.o hx (he rfl)) (fun h=>by cases h)
def fH{e x:Bool}(hc:Arg Γ c (aZ b))(hx:look Γ t=some (.opt e<| .val<|aZ x))(he:b=false->e=true):bK P Γ ⟨d,.pick c (.const<| .bool true)<| .tmp t,ty,pos,af,g⟩ (.val<|aZ (b||x)):=by
 cases b
 ·exact MA hc (fun h=>by cases h) (fun _=>by simpa using Arg.o hx (he rfl))
 ·exact MA hc (fun _=>Arg.bool) (fun h=>by cases h)
def aq3:TypeDesc->Bool
 | .struct _| .array _ _=>true
 |_=>false
def eG(P:ast)(T:asr)(n:Nat)(agg:Bool):Bool:=
 match P.info? T,P.underlying T with
 |some i,some d=>Nat.beq i.size n&&(aq3 d==agg)&&(agg||Nat.beq n 1)
 |_,_=>false
def aP{d:TypeDesc}(h:P.underlying T=some d)(w:aq5):(underlying T).run P w= .ok d w:=by
 simp[underlying,program,Sem.run,h]
def UY{agg:Bool}(h:eG P T n agg=true):
  (∀w,(isAgg T).run P w= .ok agg w)/\(∀w,(Go.sizeOf T).run P w= .ok n w)/\(agg=false->n=1):=by
 unfold eG at h;split at h
 ·rename_i i dd hi hu;simp only[cW,qd,wE] at h;obtain⟨⟨h1,h2⟩,h3⟩:=h;have h1:=fX h1;refine⟨fun w=>?_,fun w=>?_,fun hf=>?_⟩
  ·simp only[isAgg,fh,aP hu,eQ];subst h2;cases dd<;>rfl
  ·simp[Go.sizeOf,typeInfo,program,Sem.run,hi];simp[h1]
  ·rcases h3 with h3|h3
   ·rw[hf] at h3;cases h3
   ·exact fX h3
 ·cases h
def mg{agg:Bool}(h:eG P T n agg=true){b:Nat}{E:asr}{fr:Nat×Nat}(hb:w.heap[b]? =some (.cells cs E fr))(hl:off+n<=cs.size):
  (loadVar T ⟨b,off,none⟩).run P w= .ok (KA agg ((cs.toList.drop off).take n).toArray) w:=by
 obtain⟨h1,h2,h3⟩:=UY h;have YU:∀j v,((cs.toList.drop off).take n)[j]? =some v->w.cell? ((⟨b,off,none⟩:Addr).add j)=some v:=by
  intro j v hj;have Xd:(⟨b,off,none⟩:Addr).add j=⟨b,off+j,none⟩:=by unfold Addr.add;split<;>simp_all
  rw[Xd];rw[Bi] at hj;split at hj
  ·simp at hj;simp[World.cell?,hb,hj]
  ·cases hj
 have hlen:((cs.toList.drop off).take n).length=n:=by simp;omega
 cases agg
 ·have hn:=h3 rfl;subst hn;have hlt:off<cs.size:=by omega
  have hc:=YU 0 cs[off] (by simp[hlt]);have Xd:(⟨b,off,none⟩:Addr).add 0=⟨b,off,none⟩:=rfl;rw[Xd] at hc;simp only[loadVar,fh,h1,eQ];simp[load,Sem.run,hc,KA,hlt]
 ·have:=run_loadCells_list (P:=P) w ⟨b,off,none⟩ _ YU;rw[hlen] at this;simp only[loadVar,fh,h1,h2,eQ,if_true,this]
  rfl
def J9{x:aq6}(hn:x.cells.size=n):((x.cells.toList.drop 0).take n).toArray=x.cells:=by
 rw[yF,fe (by simp;omega)]
def qf{agg:Bool}(h:eG P T n agg=true)(w:aq5)(b:Nat)(x:aq6)(E:asr)(hb:w.heap[b]? =some (.cells x.cells E (0,0)))(hx:Shape n agg x):(loadVar T ⟨b,0,none⟩).run P w= .ok x w:=by
 rw[mg h hb (by rw[hx.size];omega),J9 hx.size,<-hx.eq]
def aQ(τ:Ty)(off:Nat)(σ:Ty):Prop:=∀(H:HV) (v:aq6),τ.ok H v->off+σ.n<=v.cells.size/\σ.ok H (KA σ.agg ((v.cells.toList.drop off).take σ.n).toArray)
def aQ.agg{i:Nat}(h:l[i]? =some σ)(ho:dm (l.take i)=off):aQ (gn l) off σ:=by
 rintro H v ⟨cs,e,ok⟩;subst e;subst ho;have:=oR ok h;simpa[Value.cells] using this
def aQ.whole:aQ τ 0 τ:=fun _ _ h=>by
 have hs:=τ.shape h;refine⟨by rw[hs.size];omega,?_⟩;rw[J9 hs.size,<-hs.eq];exact h
def aQ.imp{σ':Ty}(h:aQ τ off σ)(hn:σ'.n=σ.n)(ha:σ'.agg=σ.agg)(hi:∀H v,σ.ok H v->σ'.ok H v):aQ τ off σ':=fun H v hv=>by
 obtain⟨h1,h2⟩:=h H v hv;rw[hn,ha];exact⟨h1,hi _ _ h2⟩
def sr:(KA true cs).cells=cs:=rfl
def aQ.trans{ρ:Ty}{o1 o2:Nat}(h:aQ τ o1 σ)(ha:σ.agg=true)(k:aQ σ o2 ρ):aQ τ (o1+o2) ρ:=fun H v hv=>by
 obtain⟨h1,h2⟩:=h H v hv;obtain⟨k1,k2⟩:=k H _ h2;rw[ha] at k1 k2;simp only[sr] at k1 k2;have hlen:(List.take σ.n<|List.drop o1 v.cells.toList).toArray.size=σ.n:=by simp;omega
 rw[hlen] at k1;refine⟨by omega,?_⟩;have:List.take ρ.n (List.drop o2<|List.take σ.n<|List.drop o1 v.cells.toList)=List.take ρ.n (List.drop (o1+o2) v.cells.toList):=by
  rw[um,vR,ji]
  congr 1
  omega
 simpa[this] using k2
def ab(h:look Γ t=some (.own T' τ))(hT:eG P T τ.n τ.agg=true):bK P Γ ⟨d,.load T<| .tmp t,ty,pos,af,g⟩ (.val τ):=
 bh fun _ _ _ a w _ hs=>by
  obtain⟨b,x,e,hb,hx,_,_⟩:=hs.holds _<|az h
  have e':a.eval (.tmp t)= .pointer (some ⟨b,0,none⟩):=e;refine⟨x,?_,hx,rfl⟩;simp[execOp,e',Instr.loadAt,Instr.sureAddr,qf hT w b x T' hb<|τ.shape hx]
def cr(h:look Γ t=some (.ptr t' off))(h':look Γ t'=some (.own T' τ))(hp:aQ τ off σ)(hT:eG P T σ.n σ.agg=true):bK P Γ ⟨d,.load T<| .tmp t,ty,pos,af,g⟩ (.val σ):=
 bh fun _ _ _ a w _ hs=>by
  obtain⟨b,x,e,hb,hx,_,_⟩:=hs.holds _<|az h'
  obtain⟨b',e1,e2⟩:=hs.holds _<|az h
  simp only at e e1;rw[e] at e1;cases e1;have e':a.eval (.tmp t)= .pointer (some ⟨b,off,none⟩):=e2;obtain⟨h1,h2⟩:=hp _ _ hx;refine⟨_,?_,h2,rfl⟩;simp[execOp,e',Instr.loadAt,Instr.sureAddr,mg hT hb h1]
def aU(h:Arg Γ x (nY τ))(hT:eG P T τ.n τ.agg=true):bK P Γ ⟨d,.load T x,ty,pos,af,g⟩ (.val τ):=
 bh fun _ _ _ a w _ hs=>by
  obtain⟨b,off,cs,E,fr,e,hb,hl,hx⟩:=h.ok hs;refine⟨_,?_,hx,rfl⟩;simp[execOp,e,Instr.loadAt,Instr.sureAddr,mg hT (hs.sub _ _ hb) hl]
def jO(P:ast)(T:asr)(k off:Nat):Bool:=
 match P.underlying T with
 |some (.struct fs)=>match fs[k]? with
  |some f=>Nat.beq f.offset off&&(match P.info? f.type with|some i=> !Nat.beq i.size 0|none=>false)
  |none=>false
 |_=>false
def addr_add(b off n:Nat):(⟨b,off,none⟩:Addr).add n=⟨b,off+n,none⟩:=by unfold Addr.add;split<;>simp_all
def Ai{k:Nat}(h:jO P T k off=true)(b o:Nat)(w:aq5):(Instr.fieldAt T (.pointer<|some ⟨b,o,none⟩) k).run P w= .ok (.pointer<|some ⟨b,o+off,none⟩) w:=by
 unfold jO at h;split at h
 ·rename_i fs hu;split at h
  ·rename_i f hf;simp only[cW] at h;obtain⟨h1,h2⟩:=h;have h1:=fX h1;split at h2
   ·rename_i i hi;have hne:i.size≠0:=by
     intro e;rw[e] at h2;simp at h2
    simp[Instr.fieldAt,aP hu,hf,Instr.sureAddr,fieldPlace,Go.sizeOf,typeInfo,program,Sem.run,hi,hne,addr_add,h1]
   ·cases h2
  ·cases h
 ·cases h
def aO{k:Nat}(h:look Γ t=some (.own T' τ))(hf:jO P T k off=true):bK P Γ ⟨d,.fieldAddr T (.tmp t) k,ty,pos,af,g⟩ (.ptr t off):=
 bh fun _ _ _ a w _ hs=>by
  obtain⟨b,x,e,hb,hx,_,_⟩:=hs.holds _<|az h
  have e':a.eval (.tmp t)= .pointer (some ⟨b,0,none⟩):=e;exact⟨.pointer<|some ⟨b,0+off,none⟩,by simp[execOp,e',Ai hf],⟨b,e,by simp⟩,rfl⟩
def jZ{k:Nat}(h:look Γ t=some (.ptr t' o))(hf:jO P T k off=true):bK P Γ ⟨d,.fieldAddr T (.tmp t) k,ty,pos,af,g⟩ (.ptr t'<|o+off):=
 bh fun _ _ _ a w _ hs=>by
  obtain⟨b,e1,e2⟩:=hs.holds _<|az h
  have e':a.eval (.tmp t)= .pointer (some ⟨b,o,none⟩):=e2;exact⟨.pointer<|some ⟨b,o+off,none⟩,by simp[execOp,e',Ai hf],⟨b,e1,rfl⟩,rfl⟩
def Uj(hp:aQ τ o σ){b:Nat}{E:asr}{fr:Nat×Nat}(hb:H b=some (.cells cs E fr))(hl:off+τ.n<=cs.size)(ha:τ.agg=true)(hx:τ.ok H (KA τ.agg ((cs.toList.drop off).take τ.n).toArray)):
  (nY σ).ok H (.pointer<|some ⟨b,off+o,none⟩):=by
 rw[ha] at hx;obtain⟨h1,h2⟩:=hp _ _ hx;simp only[sr] at h1 h2;have hlen:(List.take τ.n<|List.drop off cs.toList).toArray.size=τ.n:=by simp;omega
 rw[hlen] at h1;refine⟨b,off+o,cs,E,fr,rfl,hb,by omega,?_⟩;have:List.take σ.n (List.drop o<|List.take τ.n<|List.drop off cs.toList)=List.take σ.n (List.drop (off+o) cs.toList):=by
  rw[um,vR,ji]
  congr 1
  omega
 simpa[this] using h2
def eT{k:Nat}(h:Arg Γ x (nY τ))(ha:τ.agg=true)(hp:aQ τ off σ)(hf:jO P T k off=true):bK P Γ ⟨d,.fieldAddr T x k,ty,pos,af,g⟩ (.val<|nY σ):=
 bh fun _ _ _ a w _ hs=>by
  obtain⟨b,o,cs,E,fr,e,hb,hl,hx⟩:=h.ok hs;exact⟨.pointer<|some ⟨b,o+off,none⟩,by simp[execOp,e,Ai hf],Uj hp hb hl ha hx,rfl⟩
def zT(P:ast)(T:asr)(len sz:Nat):Bool:=
 match P.underlying T with
 |some (.array n e)=>Nat.beq n len&&(match P.info? e with|some i=>Nat.beq i.size sz|none=>false)
 |_=>false
def Br(P:ast)(T:asr)(sz:Nat):Bool:=
 match P.underlying T with
 |some (.slice e)=>(match P.info? e with|some i=>Nat.beq i.size sz|none=>false)
 |_=>false
def Pz(h:zT P T len sz=true):∃e i,P.underlying T=some (.array len e)/\P.info? e=some i/\i.size=sz:=by
 unfold zT at h;split at h
 ·rename_i n e hu;simp only[cW] at h;obtain⟨h1,h2⟩:=h;have h1:=fX h1;subst h1;split at h2
  ·rename_i i hi;exact⟨e,i,hu,hi,fX h2⟩
  ·cases h2
 ·cases h
def Mq(h:Br P T sz=true):∃e i,P.underlying T=some (.slice e)/\P.info? e=some i/\i.size=sz:=by
 unfold Br at h;split at h
 ·rename_i e hu;split at h
  ·rename_i i hi;exact⟨e,i,hu,hi,fX h⟩
  ·cases h
 ·cases h
def xr(h:zT P T len sz=true)(b o:Nat)(h0:0<=i)(h1:i<len)(w:aq5):
  (Instr.indexAt T (.pointer<|some ⟨b,o,none⟩)<| .int k i).run P w= .ok (.pointer<|some ⟨b,o+i.toNat*sz,none⟩) w:=by
 obtain⟨e,ii,hu,hi,hs⟩:=Pz h;simp[Instr.indexAt,asIntOf,aP hu,Instr.sureAddr,h0,h1,Go.sizeOf,typeInfo,program,Sem.run,hi,hs,addr_add]
def y9(h:Br P T sz=true)(b o len cap:Nat)(h0:0<=i)(h1:i<len)(w:aq5):
  (Instr.indexAt T (.slice (some ⟨b,o,none⟩) len cap)<| .int k i).run P w= .ok (.pointer<|some ⟨b,o+i.toNat*sz,none⟩) w:=by
 obtain⟨e,ii,hu,hi,hs⟩:=Mq h;simp[Instr.indexAt,asIntOf,aP hu,h0,h1,Go.sizeOf,typeInfo,program,Sem.run,hi,hs,addr_add]
def IW(h:look Γ t=some (.own T' τ))(hT:zT P T len sz=true)(hi:Arg Γ ix (TI k i))(h0:0<=i)(h1:i<len):
  bK P Γ ⟨d,.indexAddr T (.tmp t) ix,ty,pos,af,g⟩ (.ptr t<|i.toNat*sz):=
 bh fun _ _ _ a w _ hs=>by
  obtain⟨b,x,e,hb,hx,_,_⟩:=hs.holds _<|az h
  have e':a.eval (.tmp t)= .pointer (some ⟨b,0,none⟩):=e;have ei:a.eval ix= .int k i:=hi.ok hs;exact⟨.pointer<|some ⟨b,0+i.toNat*sz,none⟩,by simp[execOp,e',ei,xr hT b 0 h0 h1],⟨b,e,by simp⟩,rfl⟩
def c6(h:look Γ t=some (.ptr t' o))(hT:zT P T len sz=true)(hi:Arg Γ ix (TI k i))(h0:0<=i)(h1:i<len):
  bK P Γ ⟨d,.indexAddr T (.tmp t) ix,ty,pos,af,g⟩ (.ptr t'<|o+i.toNat*sz):=
 bh fun _ _ _ a w _ hs=>by
  obtain⟨b,e1,e2⟩:=hs.holds _<|az h
  have e':a.eval (.tmp t)= .pointer (some ⟨b,o,none⟩):=e2;have ei:a.eval ix= .int k i:=hi.ok hs;exact⟨.pointer<|some ⟨b,o+i.toNat*sz,none⟩,by simp[execOp,e',ei,xr hT b o h0 h1],⟨b,e1,rfl⟩,rfl⟩
def Sc(h:Arg Γ x (nY τ))(ha:τ.agg=true)(hT:zT P T len sz=true)(hi:Arg Γ ix (TI k i))(h0:0<=i)(h1:i<len)(hp:aQ τ (i.toNat*sz) σ):
  bK P Γ ⟨d,.indexAddr T x ix,ty,pos,af,g⟩ (.val<|nY σ):=
 bh fun _ _ _ a w _ hs=>by
  obtain⟨b,o,cs,E,fr,e,hb,hl,hx⟩:=h.ok hs;have ei:a.eval ix= .int k i:=hi.ok hs;exact⟨.pointer<|some ⟨b,o+i.toNat*sz,none⟩,by simp[execOp,e,ei,xr hT b o h0 h1],Uj hp hb hl ha hx,rfl⟩
def HR(sz:Nat)(l:asv Ty):Prop:=∀τ∈l,τ.n=sz
def iC{sz:Nat}:∀{l:asv Ty},HR sz l->dm l=l.length*sz
 |[],_=>by simp
 |τ::l,h=>by
  have h1:=h τ (by simp);have h2:=iC (l:=l) (fun x hx=>h x (by simp[hx]));simp[h1,h2,pg];omega
def HR.take{sz:Nat}{l:asv Ty}(h:HR sz l)(i:Nat):HR sz (l.take i):=fun τ ht=>h τ<|vV ht
def mD{α:Type _}{f:α->Ty}(h:∀x,(f x).n=sz)(l:asv α):HR sz (l.map f):=fun τ ht=>by
 obtain⟨x,_,e⟩:=qb.1 ht;exact e▸h x
def Uv(h:Arg Γ x (J5 l))(hT:Br P T sz=true)(hu:HR sz l)(hi:Arg Γ ix (TI k i))(h0:0<=i)(hl:l[i.toNat]? =some σ):
  bK P Γ ⟨d,.indexAddr T x ix,ty,pos,af,g⟩ (.val<|nY σ):=
 bh fun _ _ _ a w _ hs=>by
  obtain⟨ad,cap,e,_,hx⟩:=h.ok hs;have hlt:=(jk.1 hl).1;obtain⟨b,o,cs,E,fr,e1,hb,hsz,ho⟩:=hx (fun e=>by rw[e] at hlt;simp at hlt);subst e1;have ei:a.eval ix= .int k i:=hi.ok hs;have h1:i<l.length:=by omega
  obtain⟨p1,p2⟩:=oR ho hl;have hc:dm (l.take i.toNat)=i.toNat*sz:=by
   rw[iC<|hu.take _,List.length_take,fW (by omega)]
  rw[hc] at p1 p2;have hlen:(List.take (dm l)<|List.drop o cs.toList).length=dm l:=by simp;omega
  rw[hlen] at p1;refine⟨.pointer<|some ⟨b,o+i.toNat*sz,none⟩,by simp[execOp,e,ei,y9 hT b o l.length cap h0 h1],⟨b,_,cs,E,fr,rfl,hb,by omega,?_⟩,rfl⟩;have:List.take σ.n (List.drop (i.toNat*sz)<|List.take (dm l)<|List.drop o cs.toList)=List.take σ.n (List.drop (o+i.toNat*sz) cs.toList):=by
   rw[um,vR,ji]
   congr 1
   omega
  rw[this] at p2;exact p2
inductive aJ(Γ:Ctx):asv asu->asv Ty->Prop where
 |nil:aJ Γ [] []
 |cons {x:asu} {τ:Ty} {xs:asv asu} {l:asv Ty} (h:Arg Γ x τ) (r:aJ Γ xs l):aJ Γ (x::xs) (τ::l)
def aJ.ok{xs:asv asu}{l:asv Ty}(h:aJ Γ xs l){w0:an P}{H0:HV}{N:Nat}{a:Act}{w:aq5}{H:HV}(hs:Sat w0 H0 N Γ a w H):Ct H l (xs.map a.eval):=by
 induction h with
 |nil=>rfl
 |cons h _ ih=>exact⟨_,_,rfl,h.ok hs,ih⟩
def tR:asv Ty->bN
 |[τ]=> .val τ
 |l=> .J3 l
def afI:Ze->bN
 | .vs l=>tR l
 | .fr E sz l=> .buf E sz l
def sN{dq:asv Ty}{v:aq6}{B:an P}{a:Act}(h:wU H dq v):(tR dq).holds B a w H v:=by
 match dq,h with
 |[],h=>exact h
 |[_],h=>exact h
 |_::_::_,h=>exact h
def vA{dq:asv Ty}:(tR dq).free=true:=by
 match dq with
 |[]=>rfl
 |[_]=>rfl
 |_::_::_=>rfl
def jX{f:FuncId}(h:eN P f=true)(args:auA aq6)(w:aq5):(callFunc f args).run P w= .ok (.enter f args) w:=by
 unfold eN at h;split at h
 ·rename_i fn hf;simp only[cW,jj] at h;have hb:fn.body.isNone=false:=by cases hx:fn.body<;>simp[hx] at h⊢
  have h1:fn.name≠ "runtime.NumGoroutine" :=by simpa using h.2
  have h2:fn.body≠none:=by intro e;rw[e] at hb;cases hb
  simp[callFunc,program,Sem.run,hf,h1,h2]
 ·cases h
def fS{f:FuncId}{xs:asv asu}{ta:auA asr}{args:asv Ty}{dq:Ze}(hf:fC P f args dq)(ha:aJ Γ xs args):
  bK P Γ ⟨d,.call ⟨.value<| .func f,xs.toArray,ta⟩,ty,pos,af,g⟩ (afI dq):=by
 intro w0 H0 N a w H hs K Q k;unfold Oper.wp;have e:execOp a.eval ⟨d,.call ⟨.value<| .func f,xs.toArray,ta⟩,ty,pos,af,g⟩=callFunc f (#[]++xs.toArray.map a.eval++ #[]):=rfl;rw[e,jX hf.can,CO];have e2:(#[]++xs.toArray.map a.eval++ #[])=(xs.map a.eval).toArray:=by simp
 rw[e2];refine(hf.run w H _ hs.sub hs.gl<|ha.ok hs).mono ?_;rintro e w' ⟨v,rfl,hb,H',h1,h2,h3⟩;have he:Ext w H w' H':=⟨hb,fun r o h=>by rw[h1 r<|xP hs.sub h];exact h,h1,h2⟩;cases dq with
 |vs l=>exact k v w' H' he (sN h3)<|fun b e=>absurd e<|bN.free_spec (s:=tR l) vA
 |fr E sz l=>
  obtain⟨xs,k1,k2,k3⟩:=h3;exact k v w' H' he ⟨xs,k1,k2,fun b hb=>⟨(k3 b hb).2,.inl<|fZ hs.below.size (k3 b hb).1⟩⟩<|fun b e=>(k3 b e).1
def A2{i:TypeInfo}{z:aq6}(hi:P.info? T=some i)(hz:i.zero=some z)(w:aq5):(zeroValue T).run P w= .ok z w:=by
 simp[zeroValue,typeInfo,program,Sem.run,hi,hz]
structure bL(P:ast)(T:asr)(τ:Ty):Prop where
 run:∀w,∃z,(zeroValue T).run P w= .ok z w/\∀H,τ.ok H z
def a8(z:aq6)(h:(P.info? T).bind (·.zero)=some z)(hz:∀H,τ.ok H z):bL P T τ:=⟨fun w=>by
 cases hi:P.info? T with
 |none=>rw[hi] at h;cases h
 |some i=>rw[hi] at h;exact⟨z,A2 hi h w,hz⟩⟩
def gW(h:bL P T τ):bK P Γ ⟨d,.alloc T,ty,pos,af,g⟩ (.own T τ):=
 ju fun w0 _ _ a w H hs=>by
  obtain⟨z,hr,hz⟩:=h.run w;refine⟨.pointer<|some ⟨w.heap.size,0,none⟩,w.alloc<| .cells z.cells T,H,?_,Ext.alloc hs.sub _,?_,?_⟩
  ·simp[execOp,Instr.alloc,hr,newVar,newRow]
  ·refine⟨w.heap.size,z,rfl,sR w _,hz H,?_,.inl hs.below.size⟩;cases hh:H w.heap.size with
   |none=>rfl
   |some o=>have:=xP hs.sub hh;omega
  ·rintro b ⟨ad,e,hb⟩;cases e;simp at hb;omega
def aiJ(h:Arg Γ x τ):bK P Γ ⟨d,.box T x,ty,pos,af,g⟩ (.own T τ):=
 ju fun w0 _ _ a w H hs=>by
  refine⟨.pointer<|some ⟨w.heap.size,0,none⟩,w.alloc<| .cells (a.eval x).cells T,H,?_,Ext.alloc hs.sub _,?_,?_⟩
  ·simp[execOp,Instr.box,newVar,newRow]
  ·refine⟨w.heap.size,a.eval x,rfl,sR w _,h.ok hs,?_,.inl hs.below.size⟩;cases hh:H w.heap.size with
   |none=>rfl
   |some o=>have:=xP hs.sub hh;omega
  ·rintro b ⟨ad,e,hb⟩;cases e;simp at hb;omega
end
section
variable[D:DR]
variable{P:Program}{N:Nat}{ops:Array Oper}{Γ ay:Ctx}{d:Option Tmp}{ty:TypeId}{pos:String}{af:Array Edge}{g:Option (Nat×Bool)}
variable{T:asr}{x:asu}{T':asr}{y:asu}{n m:Int}{k:IntKind}{σ:Ty}{t:Nat}{τ:Ty}{w:aq5}{off:Nat}{w0:an P}{H0:HV}{a:Act}{H:HV}{w':aq5}{row:auz Nat}{s:bN}{v:aq6}{ρ:Ty}{p:Nat}{Fc:Ty}
def Pm{d:Nat}{Γ:Ctx}{p:Nat×bN}(h:p∈del d Γ):p.1≠d/\d∉p.2.bO:=xg qk p h
def N7(hs:Sat w0 H0 N Γ a w H)(hg:AO w w' row)(uD:∀b,row=some b->w0.mY b/\H b=none/\∀l,w.heap[b]? ≠some (.deferred l))
 (bY:∀p∈ay,p∈Γ/\∀b,p.2.owns w (aX a p.1) b->row≠some b):Sat w0 H0 N ay a w' H:=by
 have lr:∀b,b<w.heap.size->row≠some b->w'.heap[b]? =w.heap[b]? :=fun b hb hn=>hg.block b hb<|fun e=>hn e.symm
 refine BJ (ds:=a.defers) hs (hs.below.BE hg<|fun k hk=>(uD k hk).1) hg.drawn (fun _ _ _ _=>rfl) hg.size (HV.le.refl _) ?_ ?_ ?_ ?_
 ·intro r o h;rw[lr r (xP hs.sub h) (fun e=>by have:=(uD r e).2.1;rw[this] at h;cases h)];exact hs.sub r o h
 ·intro _ b hb GV;exact⟨lr b hb (fun e=>by have:=an.yt (uD b e).1;omega),rfl⟩
 ·intro p hp;exact⟨(bY p hp).1,fun b hb=>⟨lr b (bN.mh (hs.holds p (bY p hp).1) hb).1<|(bY p hp).2 b hb,rfl⟩⟩
 ·exact hs.nd.kept fun D _ h1 h2=>⟨by rw[lr D (lt_of_heap h1)<|fun e=>(uD D e).2.2 _ h1];exact h1,h2⟩
def pT(h:Sat w0 H0 N Γ a w H){d:Nat}(hd:d<N)(hf:nF d Γ=true)(hl:d∉s.bO)
 (hs:s.holds w0 a w H v)(hfr:∀b,s.owns w v b->∀q∈Γ,¬q.2.owns w (aX a q.1) b):Sat w0 H0 N ((d,s)::Γ) (a.put (some d) v) w H:=Lg h hd hf hl hs hfr
def jo{b:Nat}{s':bN}(hs:Sat w0 H0 N Γ a w H)(ht:(t,s)∈Γ)(hg:AO w w' (some b))(hb:w0.mY b)(hob:s.owns w (aX a t) b)
 (pN:s'.holds w0 a w' H (aX a t))(WY:∀c,s'.owns w' (aX a t) c->s.owns w (aX a t) c\/w.heap.size<=c):Sat w0 H0 N ((t,s')::bQ t Γ) a w' H:=by
 obtain⟨h1,h2,o,h3,h4⟩:=bN.mh (hs.holds _ ht) hob;have other:∀q∈bQ t Γ,∀c,s.owns w (aX a t) c-> ¬q.2.owns w (aX a q.1) c:=fun q hq c hc=>hs.sep _ ht q (bI q hq).1 (fun e=>(bI q hq).2 e.symm) c hc
 have lJ:Sat w0 H0 N (bQ t Γ) a w' H:=by
  refine N7 hs hg (fun c hc=>by cases hc;exact⟨hb,h2,fun l e=>by rw[h3] at e;cases e;exact h4⟩)<|fun q hq=>⟨(bI q hq).1,fun c hc e=>?_⟩
  cases e;exact other q hq b hob hc
 have back:∀q∈bQ t Γ,∀c,q.2.owns w' (aX a q.1) c->q.2.owns w (aX a q.1) c:=fun q hq c hc=>by
  refine((bN.B2 (w':=w') (H':=H) (hs.holds q (bI q hq).1) ?_).2 c).1 hc;refine⟨hg.size,hg.os,hg.tape,hg.output,hg.drawn,HV.le.refl _,?_,fun _ _ _=>rfl,lJ.sub⟩;intro c hc1 Ve;refine hg.block c hc1<|fun e=>?_
  cases e;rcases Ve with Ve|Ve
  ·have:=an.yt hb;omega
  ·exact other q hq b hob Ve
 refine⟨lJ.nd,lJ.sz,lJ.below,lJ.J4,lJ.sub,?_,?_,lJ.gl⟩
 ·intro q hq;rcases bP.1 hq with eq|hq
  ·subst eq;exact pN
  ·exact lJ.holds q hq
 ·have key:∀q∈bQ t Γ,∀c,s'.owns w' (aX a t) c-> ¬q.2.owns w' (aX a q.1) c:=fun q hq c hc AL=>by
   rcases WY c hc with h|h
   ·exact other q hq c h<|back q hq c AL
   ·have:=(bN.mh (hs.holds q (bI q hq).1)<|back q hq c AL).1;omega
  intro q hq r hr hne c hc AL;rcases bP.1 hq with eq|hq<;>rcases bP.1 hr with er|hr
  ·subst eq;subst er;exact hne rfl
  ·subst eq;exact key r hr c hc AL
  ·subst er;exact key q hq c AL hc
  ·exact lJ.sep q hq r hr hne c hc AL
def QX(hs:Sat w0 H0 N Γ a w H)(hg:AO w w' row)(uD:∀b,row=some b->w0.mY b/\H b=none)
 {q:Nat×bN}(hq:q∈Γ)(hn:∀b,q.2.owns w (aX a q.1) b->row≠some b)(c:Nat):q.2.owns w' (aX a q.1) c↔q.2.owns w (aX a q.1) c:=by
 refine(bN.B2 (w':=w') (H':=H) (hs.holds q hq) ?_).2 c;refine⟨hg.size,hg.os,hg.tape,hg.output,hg.drawn,HV.le.refl _,?_,fun _ _ _=>rfl,?_⟩
 ·intro c hc1 Ve;refine hg.block c hc1<|fun e=>?_
  rcases Ve with Ve|Ve
  ·have:=an.yt (uD c e.symm).1;omega
  ·exact hn c Ve e.symm
 ·intro r o h;rw[hg.block r (xP hs.sub h) (fun e=>by have:=(uD r e.symm).2;rw[this] at h;cases h)];exact hs.sub r o h
def BI{dd:Nat}{s':bN}(hs:Sat w0 H0 N Γ a w H)(ht:(t,s)∈Γ)(hg:AO w w' row)
 (uD:∀b,row=some b->s.owns w (aX a t) b/\w0.mY b)(nU:dd<N)(hl:dd∉s'.bO)(hv:s'.holds w0 a w' H v)(ho:∀b,s'.owns w' v b->s.owns w (aX a t) b\/w.heap.size<=b):
  Sat w0 H0 N ((dd,s')::del dd (bQ t Γ)) (a.put (some dd) v) w' H:=by
 have low:∀b,s.owns w (aX a t) b->b<w.heap.size/\H b=none/\∃o,w.heap[b]? =some o/\Ol o:=fun b h=>bN.mh (hs.holds _ ht) h
 have sub:∀q∈del dd (bQ t Γ),q∈Γ/\∀b,s.owns w (aX a t) b-> ¬q.2.owns w (aX a q.1) b:=fun q hq=>by
  have h1:=bI q<|lh q hq
  exact⟨h1.1,fun b hb=>hs.sep _ ht q h1.1 (fun e=>h1.2 e.symm) b hb⟩
 have ahE:∀b,row=some b->w0.mY b/\H b=none:=fun b h=>⟨(uD b h).2,(low b (uD b h).1).2.1⟩
 have hn:∀q∈del dd (bQ t Γ),∀b,q.2.owns w (aX a q.1) b->row≠some b:=fun q hq b hb e=>(sub q hq).2 b (uD b e).1 hb
 have lJ:Sat w0 H0 N (del dd<|bQ t Γ) a w' H:=by
  refine N7 hs hg (fun b h=>⟨(uD b h).2,(ahE b h).2,fun l e=>?_⟩)<|fun q hq=>⟨(sub q hq).1,hn q hq⟩
  obtain⟨_,_,o,h3,h4⟩:=low b (uD b h).1;rw[h3] at e;cases e;exact h4
 refine pT lJ nU qk hl hv fun b hb q hq U7=>?_
 have U7:=(QX hs hg ahE (sub q hq).1 (hn q hq) b).1 U7;rcases ho b hb with h|h
 ·exact(sub q hq).2 b h U7
 ·have:=(bN.mh (hs.holds q (sub q hq).1) U7).1;omega
def C5(w:aq5):AO w w none:=⟨⟨rfl,rfl,rfl,bG _,fun _ _ _=>rfl⟩,bG _⟩
def iQ(τ:Ty)(off:Nat)(σ Fc:Ty):Prop:=∀(H:HV) (v x:aq6),τ.ok H v->σ.ok H x->off+σ.n<=v.cells.size/\
 ∃x',Fc.ok H x'/\x'.cells=(v.cells.toList.take off++x.cells.toList++v.cells.toList.drop (off+σ.n)).toArray
def iQ.whole(h:σ.n=τ.n):iQ τ 0 σ σ:=fun H v x hv hx=>by
 have h1:=(τ.shape hv).size;refine⟨by omega,x,hx,?_⟩;rw[xE (by simp;omega)];simp
def iQ.agg{l:asv Ty}{i off:Nat}{σ ρ:Ty}(h:l[i]? =some ρ)(hn:σ.n=ρ.n)(ho:dm (l.take i)=off):iQ (gn l) off σ (gn<|l.set i σ):=by
 rintro H v x ⟨cs,e,ok⟩ hx;subst e;subst ho;obtain⟨p1,_⟩:=oR ok h;have hp:=Cv ok h hn hx;rw[<-hn] at p1 hp;simp only[gN] at p1;exact⟨p1,.agg _,⟨_,rfl,by simpa[Value.cells] using hp⟩,rfl⟩
def oi{n:Nat}(h:Shape n false v):v.oneCell'=true/\n=1/\v.cells= #[v]:=by
 have h1:=h.size;have h2:=h.cell;have h3:=h.eq;cases v with
 |agg c=>
  exfalso;simp only[Value.cells,KA] at h2 h3;by_cases hc:0<c.size
  ·simp[hc] at h3;have:=h2 c[0] (by simp);rw[<-h3] at this;simp[Value.oneCell'] at this
  ·simp[EK,Array.getElem?_eq_none<|Nat.le_of_not_lt hc,undef] at h3
 |tuple c=>have:=h2 (.tuple c) (by simp[Value.cells]);simp[Value.oneCell'] at this
 |_=>exact⟨rfl,by simpa[Value.cells] using h1.symm,rfl⟩
def T6{n:Nat}{agg:Bool}{T8:asv aq6}(h:Shape n agg (KA agg T8.toArray))(hl:T8.length=n):(KA agg T8.toArray).cells=T8.toArray:=by
 cases agg
 ·obtain⟨_,h2,h3⟩:=oi h
  match T8,hl.trans h2 with
  |[y],_=>simpa[KA] using h3
 ·rfl
def iQ.trans{l:asv Ty}{i o1 o2:Nat}{ρ':Ty}(h:l[i]? =some ρ)(ho:dm (l.take i)=o1)(k:iQ ρ o2 σ ρ')(hn:ρ'.n=ρ.n)(e:o1+o2=off):iQ (gn l) off σ (gn<|l.set i ρ'):=by
 rintro H v x ⟨cs,e',ok⟩ hx;subst e';subst ho;subst e;obtain⟨p1,p2⟩:=oR ok h;have hlen:cs.toList.length=cs.size:=by simp
 rw[hlen] at p1
 generalize Ho:(List.take ρ.n<|List.drop (dm<|List.take i l) cs.toList)=T8 at p2
 have YI:T8.length=ρ.n:=by rw[<-Ho];simp;omega
 have W9:=T6 (ρ.shape p2) YI;obtain⟨k1,x',k2,k3⟩:=k H _ x p2 hx;rw[W9] at k1 k3;simp only[Jv,YI] at k1;refine⟨by simp only[Value.cells];omega,.agg _,⟨_,rfl,?_⟩,rfl⟩;have hp:=Cv ok h hn k2;rw[k3] at hp;have e1:List.take (dm<|List.take i l) cs.toList++(List.take o2 T8++x.cells.toList++List.drop (o2+σ.n) T8)++List.drop (dm (List.take i l)+ρ.n) cs.toList=
   List.take (dm (List.take i l)+o2) cs.toList++x.cells.toList++List.drop (dm (List.take i l)+o2+σ.n) cs.toList:=by
  have t1:List.take (dm (List.take i l)+o2) cs.toList=List.take (dm<|List.take i l) cs.toList++List.take o2 T8:=by
   rw[List.take_add,<-Ho,vR,fW (by omega)]
  have t2:List.drop (dm (List.take i l)+o2+σ.n) cs.toList=List.drop (o2+σ.n) T8++List.drop (dm (List.take i l)+ρ.n) cs.toList:=by
   rw[<-Ho,um,ji];have:List.drop (dm (List.take i l)+ρ.n) cs.toList=List.drop (ρ.n-(o2+σ.n)) (List.drop (dm (List.take i l)+(o2+σ.n)) cs.toList):=by
    rw[ji];congr 1;omega
   rw[this,zN]
   congr 1;omega
  rw[t1,t2];simp[rq]
 rw[List.toList_toArray] at hp;rw[e1] at hp;exact hp
def l9{n:Nat}{b:Nat}{cs:auA aq6}{E:asr}{x:aq6}(hT:(P.info? T).map (·.size)=some n)(hn:x.cells.size=n)(hb:w.heap[b]? =some (.cells cs E (0,0)))(hl:off+n<=cs.size)(h1:∀c∈x.cells.toList,c.oneCell'=true):
  (storeVar T ⟨b,off,none⟩ x).run P w= .ok () (w.setRow b (cs.toList.take off++x.cells.toList++cs.toList.drop (off+n)).toArray):=by
 cases hi:P.info? T with
 |none=>rw[hi] at hT;cases hT
 |some i=>
  rw[hi] at hT;simp at hT;have yc:=run_storeCells_at P b off E x.cells.toList 0 cs w hb (by simp;omega) h1;simp only[ux,gN,hn] at yc;simp[storeVar,Go.sizeOf,typeInfo,program,Sem.run,hi,hT,hn,yc]
def BZ{n:Nat}{agg:Bool}(h:eG P T n agg=true):(P.info? T).map (·.size)=some n:=by
 unfold eG at h;split at h
 ·rename_i i dd hi hu;simp only[cW] at h;rw[hi];simp[fX h.1.1]
 ·cases h
def QI{dz:Ctx}(bY:∀q∈dz,q∈Γ)(hp:look dz p=some (.ptr t off))(ht:look dz t=some (.own T' τ))(hx:Arg dz x σ)(hs:iQ τ off σ Fc)(hT:eG P T σ.n σ.agg=true):
  Step P N ops ⟨none,.store T (.tmp p) x,ty,pos,af,none⟩ Γ ((t,.own T' Fc)::bQ t Γ):=by
 intro w0 H0 a w H df K Q k;simp only[Region.wanted,if_true];obtain⟨b,v,e,hb,hv,hH,hB⟩:=df.holds _ (bY _<|az ht);obtain⟨b',e1,e2⟩:=df.holds _ (bY _<|az hp);simp only at e e1;rw[e] at e1;cases e1;have ep:a.eval (.tmp p)= .pointer (some ⟨b,off,none⟩):=e2;have GR:=hx.ok<|df.weaken bY
 have oY:=σ.shape GR;obtain⟨h1,x',h2,h3⟩:=hs H v _ hv GR;have qQ:=l9 (P:=P) (BZ hT) oY.size hb h1 oY.cell;rw[<-h3] at qQ;unfold Oper.wp;have er:(execOp a.eval ⟨none,.store T (.tmp p) x,ty,pos,af,none⟩).run P w= .ok .skip (w.setRow b x'.cells):=by
  simp[execOp,ep,Instr.storeAt,Instr.sureAddr,qQ]
 rw[er,wI];have hg:AO w (w.setRow b x'.cells) (some b):=AO.setRow w b _;refine k a _ H<|jo df (bY _<|az ht) hg hB ⟨_,e,rfl⟩ ⟨b,x',e,Fw w b _ _ _ _ hb,h2,hH,hB⟩ fun c hc=>?_
 obtain⟨ad,e',hc⟩:=hc;simp only[e] at e';cases e';exact .inl ⟨_,e,hc⟩
def N0(hp:look Γ p=some (.ptr t off))(ht:look Γ t=some (.own T' τ))(hx:Arg Γ x σ)(hs:iQ τ off σ Fc)(hT:eG P T σ.n σ.agg=true):
  Step P N ops ⟨none,.store T (.tmp p) x,ty,pos,af,none⟩ Γ ((t,.own T' Fc)::bQ t Γ):=QI (fun _ h=>h) hp ht hx hs hT
def Ki(hp:look Γ p=some (.ptr t off))(ht:look Γ t=some (.own T' τ))(hx:Arg Γ x σ)(hs:iQ τ off σ Fc)(hT:eG P T σ.n σ.agg=true):
  Qw P N ops Γ ⟨none,.store T (.tmp p) x,ty,pos,af,none⟩ t (.own T' Fc):=fun _ bY=>QI bY hp ht hx hs hT
def GA{dz:Ctx}(bY:∀q∈dz,q∈Γ)(ht:look dz t=some (.own T' τ))(hx:Arg dz x σ)(hn:σ.n=τ.n)(hT:eG P T σ.n σ.agg=true):
  Step P N ops ⟨none,.store T (.tmp t) x,ty,pos,af,none⟩ Γ ((t,.own T' σ)::bQ t Γ):=by
 intro w0 H0 a w H df K Q k;simp only[Region.wanted,if_true];obtain⟨b,v,e,hb,hv,hH,hB⟩:=df.holds _ (bY _<|az ht);have ep:a.eval (.tmp t)= .pointer (some ⟨b,0,none⟩):=e;have GR:=hx.ok<|df.weaken bY
 have oY:=σ.shape GR;obtain⟨h1,x',h2,h3⟩:=iQ.whole hn H v _ hv GR;have qQ:=l9 (P:=P) (BZ hT) oY.size hb h1 oY.cell;rw[<-h3] at qQ;unfold Oper.wp;have er:(execOp a.eval ⟨none,.store T (.tmp t) x,ty,pos,af,none⟩).run P w= .ok .skip (w.setRow b x'.cells):=by
  simp[execOp,ep,Instr.storeAt,Instr.sureAddr,qQ]
 rw[er,wI];have hg:AO w (w.setRow b x'.cells) (some b):=AO.setRow w b _;refine k a _ H<|jo df (bY _<|az ht) hg hB ⟨_,e,rfl⟩ ⟨b,x',e,Fw w b _ _ _ _ hb,h2,hH,hB⟩ fun c hc=>?_
 obtain⟨ad,e',hc⟩:=hc;simp only[e] at e';cases e';exact .inl ⟨_,e,hc⟩
def tP(ht:look Γ t=some (.own T' τ))(hx:Arg Γ x σ)(hn:σ.n=τ.n)(hT:eG P T σ.n σ.agg=true):
  Step P N ops ⟨none,.store T (.tmp t) x,ty,pos,af,none⟩ Γ ((t,.own T' σ)::bQ t Γ):=GA (fun _ h=>h) ht hx hn hT
def Qc(ht:look Γ t=some (.own T' τ))(hx:Arg Γ x σ)(hn:σ.n=τ.n)(hT:eG P T σ.n σ.agg=true):
  Qw P N ops Γ ⟨none,.store T (.tmp t) x,ty,pos,af,none⟩ t (.own T' σ):=fun _ bY=>GA bY ht hx hn hT
def mJ{op:BinOp}(hx:Arg Γ x σ)(hy:Arg Γ y τ)
 (h:∀H u v,σ.ok H u->τ.ok H v->∀w:aq5,(∀r o,H r=some o->w.heap[r]? =some o)->∃z,(do eqGuard op T x y u v;binOp op T u v:Sem aq6).run P w= .ok z w/\ρ.ok H z):bK P Γ ⟨d,.binOp op T x y T',ty,pos,af,g⟩ (.val ρ):=
 bh fun _ _ _ a w H hs=>by
  obtain⟨z,h1,h2⟩:=h H _ _ (hx.ok hs) (hy.ok hs) w hs.sub;refine⟨z,?_,h2,rfl⟩;have e:execOp a.eval ⟨d,.binOp op T x y T',ty,pos,af,g⟩=(do let z<-(do eqGuard op T x y (a.eval x) (a.eval y);binOp op T (a.eval x) (a.eval y):Sem aq6);pure (.value z)):=rfl;rw[e,fh,h1]
  rfl
def vF(hx:Arg Γ x (TI k m))(hy:Arg Γ y (TI k n)):bK P Γ ⟨d,.binOp .add T x y T',ty,pos,af,g⟩ (.val<|TI k<|k.wrap<|m+n):=
 mJ hx hy fun H u v hu hv w _=>by
  cases hu;cases hv;exact⟨_,by simp[eqGuard,binOp,Op.intArith],rfl⟩
def A5(hx:Arg Γ x (TI k m))(hy:Arg Γ y (TI k n)):bK P Γ ⟨d,.binOp .sub T x y T',ty,pos,af,g⟩ (.val<|TI k<|k.wrap<|m-n):=
 mJ hx hy fun H u v hu hv w _=>by
  cases hu;cases hv;exact⟨_,by simp[eqGuard,binOp,Op.intArith],rfl⟩
def xu(hx:Arg Γ x (TI k m))(hy:Arg Γ y (TI k n)):bK P Γ ⟨d,.binOp .mul T x y T',ty,pos,af,g⟩ (.val<|TI k<|k.wrap<|m*n):=
 mJ hx hy fun H u v hu hv w _=>by
  cases hu;cases hv;exact⟨_,by simp[eqGuard,binOp,Op.intArith],rfl⟩
def acp(hx:Arg Γ x (TI k m))(hy:Arg Γ y (TI k n))(h:n≠0):bK P Γ ⟨d,.binOp .quo T x y T',ty,pos,af,g⟩ (.val<|TI k<|k.wrap<|m.tdiv n):=
 mJ hx hy fun H u v hu hv w _=>by
  cases hu;cases hv;exact⟨_,by simp[eqGuard,binOp,Op.intDiv,h],rfl⟩
def aiB(hx:Arg Γ x (TI k m))(hy:Arg Γ y (TI k n))(h:n≠0):bK P Γ ⟨d,.binOp .rem T x y T',ty,pos,af,g⟩ (.val<|TI k<|m.tmod n):=
 mJ hx hy fun H u v hu hv w _=>by
  cases hu;cases hv;exact⟨_,by simp[eqGuard,binOp,Op.intDiv,h],rfl⟩
def eJ(hx:Arg Γ x (TI k m))(hy:Arg Γ y (TI k n)):bK P Γ ⟨d,.binOp .lss T x y T',ty,pos,af,g⟩ (.val<|aZ<|decide<|m<n):=
 mJ hx hy fun H u v hu hv w _=>by
  cases hu;cases hv;exact⟨_,by simp[eqGuard,binOp,Op.intCmp],rfl⟩
def vC(hx:Arg Γ x (TI k m))(hy:Arg Γ y (TI k n)):bK P Γ ⟨d,.binOp .leq T x y T',ty,pos,af,g⟩ (.val<|aZ<|decide<|m<=n):=
 mJ hx hy fun H u v hu hv w _=>by
  cases hu;cases hv;exact⟨_,by simp[eqGuard,binOp,Op.intCmp],rfl⟩
def da(hx:Arg Γ x (TI k m))(hy:Arg Γ y (TI k n)):bK P Γ ⟨d,.binOp .gtr T x y T',ty,pos,af,g⟩ (.val<|aZ<|decide<|n<m):=
 mJ hx hy fun H u v hu hv w _=>by
  cases hu;cases hv;exact⟨_,by simp[eqGuard,binOp,Op.intCmp],rfl⟩
def kg(hx:Arg Γ x (TI k m))(hy:Arg Γ y (TI k n)):bK P Γ ⟨d,.binOp .geq T x y T',ty,pos,af,g⟩ (.val<|aZ<|decide<|n<=m):=
 mJ hx hy fun H u v hu hv w _=>by
  cases hu;cases hv;exact⟨_,by simp[eqGuard,binOp,Op.intCmp],rfl⟩
def dv(hx:Arg Γ x (TI k m))(hy:Arg Γ y (TI k n)):bK P Γ ⟨d,.binOp .eql T x y T',ty,pos,af,g⟩ (.val<|aZ<|decide<|m=n):=
 mJ hx hy fun H u v hu hv w _=>by
  cases hu;cases hv;refine⟨.bool<|m==n,by simp[eqGuard,binOp,Op.intCmp],?_⟩;show _=_
  congr 1
def db(hx:Arg Γ x (TI k m))(hy:Arg Γ y (TI k n)):bK P Γ ⟨d,.binOp .neq T x y T',ty,pos,af,g⟩ (.val<|aZ<| !decide (m=n)):=
 mJ hx hy fun H u v hu hv w _=>by
  cases hu;cases hv;refine⟨.bool<|m !=n,by simp[eqGuard,binOp,Op.intCmp],?_⟩;show _=_
  congr 1
def aiH{m n:ByteArray}(hx:Arg Γ x (VH m))(hy:Arg Γ y (VH n)):bK P Γ ⟨d,.binOp .eql T x y T',ty,pos,af,g⟩ (.val<|aZ<|m.toList==n.toList):=
 mJ hx hy fun H u v hu hv w _=>by
  cases hu;cases hv;exact⟨_,by simp[eqGuard,binOp,Op.stringOp],rfl⟩
def aiC{m n:ByteArray}(hx:Arg Γ x (VH m))(hy:Arg Γ y (VH n)):bK P Γ ⟨d,.binOp .neq T x y T',ty,pos,af,g⟩ (.val<|aZ<| !(m.toList==n.toList)):=
 mJ hx hy fun H u v hu hv w _=>by
  cases hu;cases hv;exact⟨_,by simp[eqGuard,binOp,Op.stringOp],rfl⟩
def Rn(P:ast)(T:asr):Bool:=match P.underlying T with|some .bool=>true|_=>false
def aiI{m n:Bool}(hT:Rn P T=true)(hx:Arg Γ x (aZ m))(hy:Arg Γ y (aZ n)):bK P Γ ⟨d,.binOp .eql T x y T',ty,pos,af,g⟩ (.val<|aZ<|m==n):=
 mJ hx hy fun H u v hu hv w _=>by
  cases hu;cases hv;have hu:P.underlying T=some .bool:=by
   unfold Rn at hT;split at hT
   ·assumption
   ·cases hT
  refine⟨.bool<|m==n,?_,rfl⟩;have e:(Op.equal T (.bool m)<| .bool n).run P w= .ok (m==n) w:=run_equalIn_bool w 9999 T m n hu;simp[eqGuard,binOp,e]
def iN{b:Bool}(hx:Arg Γ x (aZ b)):bK P Γ ⟨d,.unOp .not T x,ty,pos,af,g⟩ (.val<|aZ<| !b):=
 bh fun _ _ _ a w H hs=>by
  have e:a.eval x= .bool b:=hx.ok hs;exact⟨_,by simp[execOp,e,Op.unary],rfl,rfl⟩
def acq(hx:Arg Γ x (TI k n)):bK P Γ ⟨d,.unOp .neg T x,ty,pos,af,g⟩ (.val<|TI k<|k.wrap<|0-n):=
 bh fun _ _ _ a w H hs=>by
  have e:a.eval x= .int k n:=hx.ok hs;exact⟨_,by simp[execOp,e,Op.unary,Op.intArith],rfl,rfl⟩
def DP(n:Int):Prop:= -9223372036854775808<=n/\n<=9223372036854775807
def wrap_i64(h:DP n):IntKind.i64.wrap n=n:=by
 exact IntWalk.i64_in n h
def U64(n:Int):Prop:=0<=n/\n<18446744073709551616
def wrap_u64(h:U64 n):IntKind.u64.wrap n=n:=by
 unfold U64 at h;exact IntWalk.u64_in n (by omega)
def af5(hx:Arg Γ x (TI .i64 m))(hy:Arg Γ y (TI .i64 n))(h:DP (m+n)):bK P Γ ⟨d,.binOp .add T x y T',ty,pos,af,g⟩ (.val<|TI .i64<|m+n):=by
 have:=vF (P:=P) (d:=d) (ty:=ty) (pos:=pos) (af:=af) (g:=g) (T:=T) (T':=T') hx hy;rwa [wrap_i64 h] at this
def afY(hx:Arg Γ x (TI .i64 m))(hy:Arg Γ y (TI .i64 n))(h:DP (m-n)):bK P Γ ⟨d,.binOp .sub T x y T',ty,pos,af,g⟩ (.val<|TI .i64<|m-n):=by
 have:=A5 (P:=P) (d:=d) (ty:=ty) (pos:=pos) (af:=af) (g:=g) (T:=T) (T':=T') hx hy;rwa [wrap_i64 h] at this
end
end Trn
