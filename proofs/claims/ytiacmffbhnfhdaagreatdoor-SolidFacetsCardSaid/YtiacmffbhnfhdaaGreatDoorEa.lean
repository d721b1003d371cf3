/-
  Part of the proof of SolidFacets.
-/
import Derived.WalkKit
import Derived.Orders
import Derived.RangeFuncIn
import Derived.RangeFuncRecord
import Derived.RangeFuncLeaves
import Derived.RangeFuncSeq
import Derived.Scope
import Derived.Shelf.Strings.Builder1
set_option maxRecDepth 100000
set_option maxHeartbeats 20000000
set_option linter.all false
open Go Go.RowKit Go.Proofs
namespace Trn
section
variable{p:Prop}
def An:= @of_decide_eq_true
def Ai:= @List.mem_cons
def BQ:= @of_decide_eq_false
def B0:= @decide_eq_true
def Bq:= @List.mem_cons_of_mem
def Cl:= @Classical.byContradiction
def Cd:= @List.take_of_length_le
def Bl:= @decide_eq_false
def Bx:= @Bool.and_eq_true
def Bp:= @List.length_map
def BM:= @Nat.le_refl
def B8:= @cond_false
def Ch:= @Int.toNat_natCast
def Ey:= @Int.mul_le_mul_of_nonneg_left
def Bv:= @List.mem_map
def DV:= @List.mem_singleton
def Cp:= @List.mem_append
def EG:= @Nat.eq_of_beq_eq_true
def Bf:= @cond_true
def Dq:= @List.mem_cons_self
def Dj:= @List.length_cons
def F8:= @Int.eq_ofNat_of_zero_le
def DZ:= @List.all_eq_true
def Dp:= @Go.Result.andThen_ok
def ED:= @List.length_append
def Ca:= @Nat.le_trans
def F1:= @Nat.le_of_ble_eq_true
def Dn:= @List.length_take
def GD:= @List.getElem?_eq_some_iff
def Ex:= @Array.length_toList
def En:= @Int.natAbs_natCast
def E5:= @Option.some.inj
def Ct:= @Int.mul_add
def Dz:= @Rat.mul_nonneg
def EN:= @Nat.min_eq_left
def Gy:= @List.getElem?_eq_getElem
def IF:= @List.getD_eq_getElem?_getD
def EC:= @Int.mul_comm
def E4:= @Go.Sem.run_bind
def Js:= @List.eq_nil_of_length_eq_zero
def Ei:= @Int.mul_assoc
def GC:= @Int.mul_left_comm
def EM:= @Int.le_of_lt
def Ik:= @decide_eq_false_iff_not
def GW:= @Bool.not_eq_true'
def FW:= @List.drop_drop
def IE:= @Nat.ble_eq_true_of_le
def Gg:= @List.getElem?_map
def HE:= @List.pairwise_cons
def Ij:= @List.length_singleton
def Gf:= @decide_eq_decide
def GB:= @Nat.mul_le_mul
def MH:= @Int.mul_le_mul_of_nonneg_right
def J9:= @Nat.mul_le_mul_right
def ID:= @List.append_assoc
def FM:= @Nat.zero_le
def J8:= @Nat.lt_of_lt_of_le
def Jr:= @Bool.or_eq_false_iff
def HZ:= @List.mem_filter
def J7:= @decide_eq_true_iff
def IC:= @List.length_drop
def MG:= @List.getElem?_append_left
def KN:= @Nat.pow_le_pow_right
def IB:= @Rat.mul_eq_zero
def Ge:= @Rat.le_of_lt
def Ii:= @List.nil_append
def NU:= @List.getElem?_append_right
def J6:= @List.append_nil
def L2:= @Nat.eq_zero_or_pos
def L1:= @Int.emod_lt_of_pos
def Mo:= @List.drop_of_length_le
def Gx:= @Rat.le_refl
def Gw:= @Rat.mul_pos
def MF:= @Int.ofNat_eq_natCast
def ME:= @List.pairwise_append
def Hp:= @Nat.lt_or_ge
def Ho:= @Int.one_mul
def Jq:= @List.length_set
def JS:= @Int.natAbs_mul
def HY:= @Int.add_mul
def Mn:= @List.mem_append_left
def PY:= @Int.sign_eq_neg_one_of_neg
def L0:= @List.getElem_mem
def NT:= @List.length_replicate
def OY:= @Int.sign_eq_one_of_pos
def Kz:= @Int.ediv_nonneg
def KM:= @Go.run_underlying
def OX:= @List.take_append_drop
def OW:= @Int.emod_add_mul_ediv
def Ld:= @Int.emod_nonneg
def Ky:= @Int.mul_nonneg
def KL:= @Bool.true_and
def Mm:= @List.pairwise_map
def OV:= @List.mem_of_getElem?
def Jp:= @Go.Sem.run_pure
def Jo:= @getElem!_pos
def Lc:= @Go.heap_alloc_new
def PX:= @Array.getElem?_toList
def JR:= @Nat.add_mul
def Kx:= @Nat.add_assoc
def S3:= @Array.getElem?_eq_some_iff
def MA:= @List.drop_take
def Mg:= @List.map_append
def La:= @Prod.mk.injEq
def NM:= @List.drop_append
def Kt:= @Nat.mul_comm
def PN:= @beq_eq_false_iff_ne
def U5:= @Array.getD_eq_getD_getElem?
def OM:= @Int.lt_trichotomy
def OL:= @Rat.divInt_eq_div
def QP:= @List.mem_of_mem_take
def NL:= @Int.natCast_mul
def NK:= @Rat.num_eq_zero
def QO:= @Prod.ext_iff
def PM:= @Rat.div_mul_cancel
def OK:= @List.nil_sublist
def U4:= @List.drop_eq_getElem_cons
def Mf:= @List.map_cons
def NJ:= @List.take_take
def OJ:= @Go.Oper.upon_value
def LZ:= @Nat.one_mul
def LY:= @Int.mul_one
def QN:= @List.filter_append
def M9:= @Nat.pow_add
def QM:= @List.flatMap_cons
def PL:= @Rat.num_intCast
def WI:= @List.sublist_append_right
def U3:= @List.contains_iff_mem
def Tz:= @Array.getElem?_modify
def QL:= @List.cons_append
def WH:= @List.Pairwise.imp_of_mem
def OI:= @List.all_cons
def Me:= @Int.mul_sub
def M8:= @bne_iff_ne
def Tx:= @List.mem_of_mem_drop
def PJ:= @List.drop_zero
def PI:= @Int.mul_le_mul
def WG:= @List.sublist_append_iff
def QK:= @Bool.or_eq_true
def ZW:= @Int.fdiv_eq_ediv_of_nonneg
def S2:= @List.not_mem_nil
def S1:= @Nat.mod_eq_of_lt
def Rz:= @List.drop_length
def Ry:= @Int.ediv_le_self
def iG:= @List.pairwise_iff_forall_sublist
def Tw:= @Bool.false_eq_true
def QJ:= @List.mem_range
def QI:= @Go.Oper.upon_skip
def Tv:= @List.getElem?_drop
def WE:= @List.length_filter_le
def PH:= @Nat.zero_add
def Rx:= @Option.map_some
def PG:= @Nat.add_comm
def Rw:= @Rat.den_intCast
def Rv:= @Int.mul_ne_zero
def iF:= @Rat.mul_le_mul_of_nonneg_right
def Tu:= @decide_eq_true_eq
def Tt:= @Int.emod_eq_of_lt
def Ts:= @List.Sublist.refl
def ZV:= @Go.World.putObj_heap_other
def ZU:= @List.pairwise_singleton
def WD:= @List.length_pos_iff
def Tq:= @Nat.le_add_right
def OH:= @Nat.mod_lt
def ZT:= @List.getElem?_set_self
def PF:= @Nat.log2_lt
def ZS:= @List.singleton_sublist
def WC:= @List.getElem?_take
def QH:= @List.map_map
def iE:= @Int.gcd_pos_of_ne_zero_left
def ZR:= @List.mem_append_right
def zr:= @List.singleton_append
def ZQ:= @Int.ediv_lt_of_lt_mul
def iD:= @Array.toList_setIfInBounds
def WB:= @List.size_toArray
def WA:= @List.ext_getElem?
def iC:= @List.pairwise_iff_getElem
def iB:= @Array.getElem?_eq_getElem
def iA:= @Int.lt_of_mul_lt_mul_left
def QG:= @Nat.le_succ
def Tp:= @Int.sub_mul
def To:= @List.drop_left
def Tn:= @Bool.false_and
def Tm:= @Int.natAbs_neg
def W9:= @List.take_append
def Ru:= @Nat.succ_mul
def Rt:= @Nat.gcd_comm
def W8:= @List.isEmpty_iff
def Rs:= @Nat.pow_succ
def ZP:= @List.take_replicate
def ZO:= @Nat.mul_le_mul_left
def Tl:= @Bool.false_or
def QF:= @beq_iff_eq
def W7:= @Go.Oper.upon_enter
def W6:= @List.length_nil
def W5:= @List.nodup_cons
def W0:= @Array.size_ofFn
def ZN:= @Bool.not_eq_false'
def Vz:= @List.any_append
def hZ:= @Array.getElem?_eq_none
def gz:= @List.length_eq_one_iff
def Tk:= @Nat.add_zero
def gy:= @Array.getElem?_append
def Tj:= @List.map_set
def Ti:= @Int.mul_zero
def Vy:= @Rat.mkRat_self
def gw:= @List.eq_nil_or_concat
def ZM:= @Option.getD_some
def ZK:= @List.mem_flatMap
def ZJ:= @Nat.le_of_not_lt
def ZI:= @Go.Lib.cell_of_heap
def ZH:= @List.filter_cons
def gq:= @BitVec.ofInt_natCast
def ZG:= @List.append_inj'
def qM:= @List.map_take
def Th:= @Go.setRow_heap
def Tg:= @Rat.div_def
def Tf:= @Rat.inv_pos
def gp:= @List.take_succ_cons
def gn:= @List.map_congr_left
def gk:= @List.drop_set_of_lt
def qL:= @List.getElem?_zip_eq_some
def ZF:= @Nat.two_pow_pos
def ZE:= @Bool.decide_and
def ZD:= @Bool.eq_iff_iff
def ZC:= @Rat.intCast_inj
def Vx:= @Bool.true_or
def Vw:= @Nat.le_of_lt
def gj:= @List.map_replicate
def Vv:= @Int.add_zero
def gi:= @BitVec.toNat_ofNat
def gh:= @Int.mul_right_comm
def gZ:= @Rat.sub_eq_add_neg
def gY:= @Rat.mul_inv_cancel
def gX:= @List.append_of_mem
def gW:= @List.any_eq_false
def qK:= @Go.World.putObj_heap_same
def ZB:= @Bool.not_true
def gU:= @List.any_eq_true
def gT:= @Int.sign_neg_iff
def qJ:= @List.getElem?_eq_none
def qI:= @List.mem_iff_getElem?
def qH:= @List.concat_eq_append
def ZA:= @List.map_nil
def gS:= @List.foldl_cons
def qG:= @List.contains_eq_mem
def gR:= @List.all_append
def Z9:= @Rat.le_trans
def gQ:= @UInt8.toNat_inj
def Z8:= @or_and_right
def qE:= @Nat.pow_le_pow_left
def gN:= @List.take_left
def gM:= @Bool.and_false
def gL:= @Rat.num_divInt
def gK:= @Rat.den_divInt
def Z7:= @Nat.pow_pos
def Vu:= @Go.wpIn_mono
def gJ:= @Bool.or_false
def gI:= @Bool.and_true
def qD:= @Int.natAbs_add_le
def qC:= @Nat.gcd_zero_left
def qB:= @List.nodup_append
def qA:= @Bool.not_eq_true
def gH:= @Nat.zero_mul
def q9:= @Nat.sub_self
def gG:= @Rat.le_total
def Au(h:p:=by dsimp only;omega):p:=h
def E8(h:p:=by simp;omega):p:=h
def dcZ(h:p:=by decide):p:=h
def Em(h:p:=by rfl):p:=h
theorem AY(h:p:=by grind):p:=h
def AS(h:p:=by simp):p:=h
def A4(h:p:=by omega):p:=h
def A6{α:Sort _}{a b:α}(h:a=b:=by kernel_rfl):a=b:=h
end
abbrev A3:=List
abbrev A9:=Option
abbrev AQ:=World
abbrev AR:=Value
abbrev CB:=Operand
abbrev Ah:=TypeId
abbrev C7:=Program
abbrev B6:=Array
abbrev HV:=Nat->A9 Obj
class DR where
 on:Bool
def DR.m[D:DR](w:AQ):Nat:=cond D.on w.drawn 0
abbrev DR.strict:DR:=⟨true⟩
instance DR.lax:DR:=⟨false⟩
abbrev Gu[D:DR](w w':AQ):Prop:=DR.m w<=DR.m w'
def Gu.of[D:DR]{w w':AQ}(h:w.drawn<=w'.drawn):Gu w w':=by
 unfold Gu DR.m;cases D.on
 ·exact BM _
 ·exact h
class abo[D:DR]:Prop where
 off:D.on=false
instance: @abo DR.lax:= @abo.mk DR.lax rfl
def HV.le(H H':HV):Prop:=∀r o,H r=some o->H' r=some o
def HV.le.refl(H:HV):HV.le H H:=λ_ _ h=>h
def HV.le.trans{A B C:HV}(h:HV.le A B)(k:HV.le B C):HV.le A C:=λr o x=>k r o<|h r o x
def dz:B6 AR:=((List.range 20).map λi=>Value.int .u64<|10^i).toArray
def SE(P:C7)(T:Ah)(o:A9 Obj):Prop:=match P.underlying T with
 |some (.int k)=>∃m E fr,o=some (.cells #[.int k m] E fr)
 |some (.array 20 _)=>∃E fr,o=some (.cells dz E fr)
 |_=>True
def KP(P:C7)(H:HV):Prop:=∀g T,(P.globals[g]?).map (·.type)=some T->SE P T (H g)
def KP.mono{P:C7}{H H':HV}(h:HV.le H H')(k:KP P H):KP P H':=λg T e=>by
 have:=k g T e;unfold SE at this⊢;split
 ·rename_i hu;rw[hu] at this;obtain⟨m,E,fr,e⟩:=this;exact⟨m,E,fr,h _ _ e⟩
 ·rename_i hu;rw[hu] at this;obtain⟨E,fr,e⟩:=this;exact⟨E,fr,h _ _ e⟩
 ·trivial
structure Ae(P:C7) where
 w:AQ
 X:Nat->Prop
 rd:A9 Nat
 Iv:Bool
 ds:A3 Deferred
 lo:Nat
 acB:lo<=w.heap.size
 ary:∀k,X k->lo<=k
section
variable{P:Program}
def KA:Nat->Prop:=λ_=>False
def Ae.call(P:C7)(w:AQ):Ae P:=⟨w,KA,none,false,[],w.heap.size,BM _,λ_ h=>h.elim⟩
def Ae.n(b:Ae P):Nat:=b.w.heap.size
def Ae.EI(b:Ae P)(k:Nat):Prop:=b.n<=k\/b.X k
def Ae.QC{b:Ae P}{k:Nat}(h:b.EI k):b.lo<=k:=h.elim (λh=>Ca b.acB h)<|b.ary k
def Ae.lo_le{b:Ae P}:b.lo<=b.n:=b.acB
end
section
variable{P:Program}
variable[D:DR]
variable{w:AQ}{b:Ae P}
structure FL(n:Nat)(w w':AQ):Prop extends Below n w w' where
 drawn:Gu w w'
structure Ef(w w':AQ)(row:A9 Nat):Prop extends w.grownBy w' row where
 drawn:Gu w w'
def FL.refl(n:Nat)(w:AQ):FL n w w:=⟨Below.refl _ _,BM _⟩
def FL.alloc{w:AQ}(o:Obj):FL w.heap.size w (w.alloc o):=⟨(Below.refl _ _).alloc (BM _) _,BM _⟩
def Ef.setRow(w:AQ)(b:Nat)(cs:B6 AR):Ef w (w.setRow b cs) (some b):=⟨⟨rfl,rfl,rfl,by simp,λk _ hk=>setRow_other w b k _ (λe=>hk (by rw[e]))⟩,BM _⟩
structure Kept(b:Ae P)(w:AQ):Prop where
 os:w.os=b.w.os
 tape:w.tape=b.w.tape
 output:w.output=b.w.output
 drawn:Gu b.w w
 size:b.n<=w.heap.size
 block:b.Iv=false->∀k,k<b.n-> ¬b.X k->w.heap[k]? =b.w.heap[k]?
def Kept.step{w':AQ}(h:Kept b w)(k:FL w.heap.size w w'):Kept b w':=
 ⟨k.os.trans h.os,k.tape.trans h.tape,k.output.trans h.output,Ca h.drawn k.drawn,Ca h.size k.size,λhv i hi hx=>(k.block i<|J8 hi h.size).trans<|h.block hv i hi hx⟩
def Kept.LA{w':AQ}{row:A9 Nat}(h:Kept b w)(g:Ef w w' row)(hr:∀k,row=some k->b.EI k):Kept b w':=
 ⟨g.os.trans h.os,g.tape.trans h.tape,g.output.trans h.output,Ca h.drawn g.drawn,Ca h.size g.size,λhv i hi hx=>(g.block i (J8 hi h.size) (λe=>by
  rcases hr i e.symm with h1|h1
  ·omega
  ·exact hx h1)).trans<|h.block hv i hi hx⟩
def Kept.below(h:Kept b w)(hX:b.X=KA)(hv:b.Iv=false):FL b.w.heap.size b.w w:=⟨⟨h.os,h.tape,h.output,h.size,λk hk=>h.block hv k hk (by rw[hX];exact λh=>h)⟩,h.drawn⟩
end
section
variable{P:Program}
variable{H:HV}{v:AR}{H':HV}
def grow(H:HV)(w w':AQ):HV:=λr=>if r<w.heap.size then H r else w'.heap[r]?
def Gp:Bool->B6 AR->AR
 |true,cs=> .agg cs
 |false,cs=>cs.getD 0 undef
structure Shape(n:Nat)(agg:Bool)(v:AR):Prop where
 size:v.cells.size=n
 cell:∀c∈v.cells.toList,c.oneCell'=true
 eq:v=Gp agg v.cells
def Shape.one(h:v.oneCell'=true):Shape 1 false v:=by
 have hc:v.cells= #[v]:=by cases v<;>first|rfl|simp[Value.oneCell'] at h
 refine⟨by simp[hc],by simp[hc,h],by simp[hc,Gp]⟩
structure Ty where
 n:Nat
 agg:Bool
 ok:HV->AR->Prop
 mono:∀{H H':HV} {v:AR},HV.le H H'->ok H v->ok H' v
 shape:∀{H:HV} {v:AR},ok H v->Shape n agg v
def TEq(v:AR)(h:v.oneCell'=true):Ty where
 n:=1
 agg:=false
 ok:=λ_ x=>x=v
 mono:=λ_ h=>h
 shape:=λe=>by subst e;exact Shape.one h
def TI(k:IntKind)(n:Int):Ty:=TEq (.int k n) rfl
def Ay(b:Bool):Ty:=TEq (.bool b) rfl
def Sl(s:ByteArray):Ty:=TEq (.string s) rfl
@[simp] theorem rY{k:IntKind}{n:Int}:(TI k n).ok H v↔v= .int k n:=Iff.rfl
@[simp] theorem auu{b:Bool}:(Ay b).ok H v↔v= .bool b:=Iff.rfl
@[simp] theorem av0{b:ByteArray}:(Sl b).ok H v↔v= .string b:=Iff.rfl
def DJ(H:HV):A3 Ty->A3 AR->Prop
 |[],cs=>cs=[]
 |τ::l,cs=>∃v rest,cs=v.cells.toList++rest/\τ.ok H v/\DJ H l rest
def CH(l:A3 Ty):Nat:=(l.map (·.n)).sum
@[simp] theorem ahY:CH []=0:=rfl
@[simp] theorem mV(τ:Ty)(l:A3 Ty):CH (τ::l)=τ.n+CH l:=by simp[CH]
def Q8{H H':HV}(h:HV.le H H'):∀{l:A3 Ty} {cs:A3 AR},DJ H l cs->DJ H' l cs
 |[],_,e=>e
 |_::_,_,⟨v,rest,e,hv,hr⟩=>⟨v,rest,e,Ty.mono _ h hv,Q8 h hr⟩
def Md{H:HV}:∀{l:A3 Ty} {cs:A3 AR},DJ H l cs->cs.length=CH l
 |[],_,e=>by subst e;rfl
 |τ::l,_,⟨v,rest,e,hv,hr⟩=>by
  subst e;have:=Md hr;have hs:=(τ.shape hv).size;simp[this,hs]
def Rg{H:HV}:∀{l:A3 Ty} {cs:A3 AR},DJ H l cs->∀c∈cs,c.oneCell'=true
 |[],_,e=>by subst e;simp
 |τ::l,_,⟨v,rest,e,hv,hr⟩=>by
  subst e;intro c hc;rcases Cp.1 hc with h|h
  ·exact(τ.shape hv).cell c h
  ·exact Rg hr c h
def RT{H:HV}:∀{l:A3 Ty} {cs:A3 AR} {l':A3 Ty} {E2:A3 AR},DJ H l cs->DJ H l' E2->DJ H (l++l') (cs++E2)
 |[],_,_,_,e,h=>by subst e;simpa using h
 |_::_,_,_,_,⟨v,rest,e,hv,hr⟩,h=>by
  subst e;exact⟨v,_,by simp,hv,RT hr h⟩
def N7{H:HV}:∀{l:A3 Ty} {cs:A3 AR} {i:Nat} {τ:Ty},DJ H l cs->l[i]? =some τ->
  CH (l.take i)+τ.n<=cs.length/\τ.ok H (Gp τ.agg ((cs.drop<|CH<|l.take i).take τ.n).toArray)
 |[],_,i,_,_,h=>by simp at h
 |σ::l,_,0,τ,⟨v,rest,e,hv,hr⟩,h=>by
  simp at h;subst h;subst e;have hs:=σ.shape hv;refine⟨by simp[hs.size],?_⟩;have:(List.take σ.n<|v.cells.toList++rest).toArray=v.cells:=by
   rw[<-hs.size,<-Ex,gN]
  simpa[this,<-hs.eq] using hv
 |σ::l,_,i+1,τ,⟨v,rest,e,hv,hr⟩,h=>by
  simp at h;subst e;have hs:=σ.shape hv;obtain⟨h1,h2⟩:=N7 hr h;have hd:List.drop (σ.n+CH (List.take i l)) (v.cells.toList++rest)=List.drop (CH<|List.take i l) rest:=by
   rw[<-hs.size,<-Ex,NM];simp
  refine⟨?_,?_⟩
  ·simp[hs.size];omega
  ·simp only[gp,mV,hd];exact h2
def Te{H:HV}:∀{l:A3 Ty} {cs:A3 AR} {i:Nat} {τ σ:Ty} {x:AR},DJ H l cs->l[i]? =some τ->σ.n=τ.n->σ.ok H x->
  DJ H (l.set i σ) (cs.take (CH<|l.take i)++x.cells.toList++cs.drop (CH (l.take i)+τ.n))
 |[],_,i,_,_,_,_,h,_,_=>by simp at h
 |ρ::l,_,0,τ,σ,x,⟨v,rest,e,hv,hr⟩,h,hn,hx=>by
  simp at h;subst h;subst e;have hs:=ρ.shape hv;have hd:List.drop ρ.n (v.cells.toList++rest)=rest:=by
   rw[<-hs.size,<-Ex,To]
  simp only[List.set_cons_zero,List.take_zero,ahY,PH,Ii,hd];exact⟨x,rest,rfl,hx,hr⟩
 |ρ::l,_,i+1,τ,σ,x,⟨v,rest,e,hv,hr⟩,h,hn,hx=>by
  simp at h;subst e;have hs:=ρ.shape hv;have ih:=Te hr h hn hx;have h1:List.take (ρ.n+CH (List.take i l)) (v.cells.toList++rest)=v.cells.toList++List.take (CH<|List.take i l) rest:=by
   rw[<-hs.size,<-Ex,W9];simp[Cd]
  have h2:List.drop (ρ.n+CH (List.take i l)+τ.n) (v.cells.toList++rest)=List.drop (CH (List.take i l)+τ.n) rest:=by
   rw[<-hs.size,<-Ex,Kx,NM];simp
  simp only[List.set_cons_succ,gp,mV,h1,h2];exact⟨v,_,by simp,hv,ih⟩
def DG(l:A3 Ty):Ty where
 n:=CH l
 agg:=true
 ok:=λH v=>∃cs,v= .agg cs/\DJ H l cs.toList
 mono:=λh ⟨cs,e,k⟩=>⟨cs,e,Q8 h k⟩
 shape:=λ⟨cs,e,k⟩=>by
  subst e;exact⟨by simpa[Value.cells] using Md k,by simpa[Value.cells] using Rg k,rfl⟩
def Ee(H:HV):A3 Ty->A3 AR->Prop
 |[],vs=>vs=[]
 |τ::l,vs=>∃v rest,vs=v::rest/\τ.ok H v/\Ee H l rest
def Yk{H H':HV}(h:HV.le H H'):∀{l:A3 Ty} {vs:A3 AR},Ee H l vs->Ee H' l vs
 |[],_,e=>e
 |_::_,_,⟨v,rest,e,hv,hr⟩=>⟨v,rest,e,Ty.mono _ h hv,Yk h hr⟩
def aak{H:HV}:∀{l:A3 Ty} {vs:A3 AR} {i:Nat} {τ:Ty},Ee H l vs->l[i]? =some τ->∃v,vs[i]? =some v/\τ.ok H v
 |[],_,i,_,_,h=>by simp at h
 |_::_,_,0,_,⟨v,rest,e,hv,_⟩,h=>by simp at h;subst h;subst e;exact⟨v,rfl,hv⟩
 |_::_,_,i+1,_,⟨v,rest,e,_,hr⟩,h=>by simp at h;subst e;simpa using aak hr h
def Ro{H:HV}:∀{l:A3 Ty} {vs:A3 AR},Ee H l vs->vs.length=l.length
 |[],_,e=>by subst e;rfl
 |_::_,_,⟨v,rest,e,_,hr⟩=>by subst e;simp[Ro hr]
def JX(τ:Ty):Ty where
 n:=1
 agg:=false
 ok:=λH v=>∃b off cs E fr,v= .pointer (some ⟨b,off,none⟩)/\H b=some (.cells cs E fr)/\off+τ.n<=cs.size/\
  τ.ok H (Gp τ.agg ((cs.toList.drop off).take τ.n).toArray)
 mono:=λh ⟨b,off,cs,E,fr,e,hb,hl,k⟩=>⟨b,off,cs,E,fr,e,h _ _ hb,hl,τ.mono h k⟩
 shape:=λ⟨_,_,_,_,_,e,_⟩=>by subst e;exact Shape.one rfl
def FT(l:A3 Ty):Ty where
 n:=1
 agg:=false
 ok:=λH v=>∃ad cap,v= .slice ad l.length cap/\l.length<=cap/\
  (l≠[]->∃b off cs E fr,ad=some ⟨b,off,none⟩/\H b=some (.cells cs E fr)/\off+CH l<=cs.size/\DJ H l ((cs.toList.drop off).take<|CH l))
 mono:=λh ⟨ad,cap,e,hc,k⟩=>⟨ad,cap,e,hc,λhl=>by
  obtain⟨b,off,cs,E,fr,e1,hb,hs,ho⟩:=k hl;exact⟨b,off,cs,E,fr,e1,h _ _ hb,hs,Q8 h ho⟩⟩
 shape:=λ⟨_,_,e,_,_⟩=>by subst e;exact Shape.one rfl
def TEx{α:Type}(n:Nat)(agg:Bool)(p:α->Prop)(τ:α->Ty)(hn:∀a,(τ a).n=n)(ha:∀a,(τ a).agg=agg):Ty where
 n:=n
 agg:=agg
 ok:=λH v=>∃a,p a/\(τ a).ok H v
 mono:=λh ⟨a,pa,k⟩=>⟨a,pa,(τ a).mono h k⟩
 shape:=λ⟨a,_,k⟩=>by have:=(τ a).shape k;rw[hn,ha] at this;exact this
def okM(H:HV):Nat->A3 (Ty×Ty)->A3 MapEntry->Prop
 |_,[],[]=>True
 |i,(k,e)::l,x::xs=>k.ok H x.key/\e.ok H x.val/\x.born=i/\okM H (i+1) l xs
 |_,_,_=>False
def oR{H H':HV}(h:HV.le H H'):∀{i:Nat} {l:A3 (Ty×Ty)} {es:A3 MapEntry},okM H i l es->okM H' i l es
 |_,[],[],_=>trivial
 |_,[],_::_,k=>k.elim
 |_,(_,_)::_,[],k=>k.elim
 |_,(k,e)::_,_::_,⟨h1,h2,h3,h4⟩=>⟨k.mono h h1,e.mono h h2,h3,oR h h4⟩
def az(L:A3 (Ty×Ty)):Ty where
 n:=1
 agg:=false
 ok:=λH v=>∃r es,v= .map (some r)/\H r=some (.map es es.size)/\okM H 0 L es.toList
 mono:=λh ⟨r,es,e,hr,k⟩=>⟨r,es,e,h _ _ hr,oR h k⟩
 shape:=λ⟨_,_,e,_,_⟩=>by subst e;exact Shape.one rfl
end
section
variable{P:Program}
variable[D:DR]
variable{w:AQ}{H:HV}{B:Ae P}{v:AR}{a:Act}{w':AQ}{H':HV}{b:Nat}{Eb:Ah}{w0:Ae P}{H0:HV}{N d:Nat}{B':Ae P}{E:Ah}{l:A3 Ty}
structure Far(n:Nat)(own:Nat->Prop)(w:AQ)(H:HV)(w':AQ)(H':HV):Prop where
 size:w.heap.size<=w'.heap.size
 os:w'.os=w.os
 tape:w'.tape=w.tape
 output:w'.output=w.output
 drawn:Gu w w'
 le:HV.le H H'
 E6:∀b,b<w.heap.size->(b<n\/own b)->w'.heap[b]? =w.heap[b]?
 view:∀b,b<w.heap.size->(b<n\/own b)->H' b=H b
 sub:∀r o,H' r=some o->w'.heap[r]? =some o
def Far.imp{n m:Nat}{p q:Nat->Prop}{w w':AQ}{H H':HV}(h:Far n p w H w' H')(hm:m<=n)(hq:∀b,q b->p b):Far m q w H w' H':=
 ⟨h.size,h.os,h.tape,h.output,h.drawn,h.le,λb hb k=>h.E6 b hb<|k.imp (λx=>J8 x hm)<|hq b,λb hb k=>h.view b hb<|k.imp (λx=>J8 x hm)<|hq b,h.sub⟩
def Zk:Obj->Prop
 | .deferred _=>False
 |_=>True
structure Inv where
 n:Nat
 M:Nat->Prop
 p:AQ->HV->Prop
 lt:∀{w:AQ} {H:HV} {b:Nat},p w H->M b->b<w.heap.size/\H b=none/\∃o,w.heap[b]? =some o/\Zk o
 step:∀{w w':AQ} {H H':HV},p w H->Far n M w H w' H'->p w' H'
inductive Cv where
 |val(τ:Ty)
 |buf(l:A3 Ty)
 |any
inductive Bt where
 |val(τ:Ty)
 |any(n:Nat)(agg:Bool)
 |sm(u:Nat)
 |buf(E:Ah)(sz:Nat)(l:A3 Ty)
 |map(K E:Ah)(Eb:Ah)(sz:Nat)(E1:A3 (Ty×Cv))
inductive AN where
 |val(τ:Ty)
 |LF(l:A3 Ty)
 |own(T:Ah)(τ:Ty)
 |ptr(t off:Nat)
 |opt(c:Bool)(s:AN)
 |same(t:Nat)
 |Jy(t j sz:Nat)
 |bpf(t off:Nat)
 |gone
 |buf(E:Ah)(sz:Nat)(l:A3 Ty)
 |Nk(x:AR)(E:Ah)(sz:Nat)(l:A3 Ty)
 |Cx(T:Ah)(agg:Bool)(ps:A3 Bt)
 |Gn(K E:Ah)(Eb:Ah)(sz:Nat)(E1:A3 (Ty×Cv))
 |Qt(Eb:Ah)(sz:Nat)(l:A3 Ty)(i:Nat)
 |inv(I:Inv)
 |K8(t:Nat)(v:AR)
 |Dw(l:Nat)(rc:Loop)
 |JC(L:A3 (Ty×Ty))(seen:A3 Nat)
 |vec(k:A9 FuncId)(us:A3 Nat)
 |SV(t:Nat)(i:Int)
 |I5(T E:Ah)(l:A3 Ty)
 |F3(E:Ah)(pre post:A3 AR)(l:A3 Ty)
 |win(t j n sz:Nat)
 |Mv(t i sz:Nat)
def Ab(a:Act)(t:Nat):AR:=a.tmps.getD t undef
def aX(a:Act)(k:A9 FuncId)(us:A3 Nat):AR:=match k with
 |none=> .agg (us.map<|Ab a).toArray
 |some f=> .func (.func f) #[] (us.map<|Ab a).toArray
def KQ(B:Ae P)(w:AQ)(H:HV)(E:Ah)(sz:Nat)(l:A3 Ty)(v:AR):Prop:=
 ∃xs,w.ownsRow 0 E sz v l.length xs/\DJ H l xs/\∀b,v.ownBlock=some b->H b=none/\B.EI b
def Cv.holds(B:Ae P)(w:AQ)(H:HV)(Eb:Ah)(sz:Nat)(v:AR):Cv->Prop
 | .val τ=>τ.ok H v
 | .buf l=>KQ B w H Eb sz l v
 | .any=>True
def Cv.owns(v:AR)(b:Nat):Cv->Prop
 | .buf _=>v.ownBlock=some b
 |_=>False
def K9(B:Ae P)(w:AQ)(H:HV)(Eb:Ah)(sz:Nat):Nat->A3 (Ty×Cv)->A3 MapEntry->Prop
 |_,[],[]=>True
 |i,(k,e)::l,x::xs=>k.ok H x.key/\e.holds B w H Eb sz x.val/\x.born=i/\K9 B w H Eb sz (i+1) l xs
 |_,_,_=>False
def Ht(b:Nat):A3 (Ty×Cv)->A3 MapEntry->Prop
 |(_,e)::l,x::xs=>e.owns x.val b\/Ht b l xs
 |_,_=>False
def Of:A3 (Ty×Cv)->A3 MapEntry->Prop
 |(_,e)::l,x::xs=>(∀b,e.owns x.val b-> ¬Ht b l xs)/\Of l xs
 |_,_=>True
def Qj(B:Ae P)(w:AQ)(H:HV)(Eb:Ah)(sz:Nat)(E1:A3 (Ty×Cv))(v:AR):Prop:=
 ∃r es,v= .map (some r)/\w.heap[r]? =some (.map es es.size)/\H r=none/\B.EI r/\K9 B w H Eb sz 0 E1 es.toList/\Of E1 es.toList
def PE(w:AQ)(E1:A3 (Ty×Cv))(v:AR)(b:Nat):Prop:=
 v= .map (some b)\/∃r es,v= .map (some r)/\w.heap[r]? =some (.map es es.size)/\Ht b E1 es.toList
def Bt.n:Bt->Nat
 | .val τ=>τ.n
 | .any n _=>n
 |_=>1
def Bt.agg:Bt->Bool
 | .val τ=>τ.agg
 | .any _ a=>a
 |_=>false
def Bt.holds(B:Ae P)(a:Act)(w:AQ)(H:HV)(v:AR):Bt->Prop
 | .val τ=>τ.ok H v
 | .any n g=>Shape n g v
 | .sm u=>v=Ab a u/\v.oneCell'=true
 | .buf E sz l=>KQ B w H E sz l v
 | .map _ _ Eb sz E1=>Qj B w H Eb sz E1 v
def Bt.owns(w:AQ)(v:AR)(b:Nat):Bt->Prop
 | .buf _ _ _=>v.ownBlock=some b
 | .map _ _ _ _ E1=>PE w E1 v b
 |_=>False
def IV(B:Ae P)(a:Act)(w:AQ)(H:HV):A3 Bt->A3 AR->Prop
 |[],cs=>cs=[]
 |p::l,cs=>∃v rest,cs=v.cells.toList++rest/\Shape p.n p.agg v/\p.holds B a w H v/\IV B a w H l rest
def Fv(w:AQ)(b:Nat):A3 Bt->A3 AR->Prop
 |[],_=>False
 |p::l,cs=>p.owns w (Gp p.agg (cs.take p.n).toArray) b\/Fv w b l (cs.drop p.n)
def Nj(w:AQ):A3 Bt->A3 AR->Prop
 |[],_=>True
 |p::l,cs=>(∀b,p.owns w (Gp p.agg (cs.take p.n).toArray) b-> ¬Fv w b l (cs.drop p.n))/\Nj w l (cs.drop p.n)
def AN.holds(B:Ae P)(a:Act)(w:AQ)(H:HV)(v:AR):AN->Prop
 | .val τ=>τ.ok H v
 | .LF l=>∃vs,v= .tuple vs/\Ee H l vs.toList
 | .own T τ=>∃b x,v= .pointer (some ⟨b,0,none⟩)/\w.heap[b]? =some (.cells x.cells T (0,0))/\τ.ok H x/\H b=none/\B.EI b
 | .ptr t off=>∃b,Ab a t= .pointer (some ⟨b,0,none⟩)/\v= .pointer (some ⟨b,off,none⟩)
 | .opt c s=>(c=true->s.holds B a w H v)/\(c=false->v=undef)
 | .same t=>v=Ab a t
 | .Jy t j sz=>∃b len cap,Ab a t= .slice (some ⟨b,0,none⟩) len cap/\v= .pointer (some ⟨b,j*sz,none⟩)
 | .bpf t off=>∃b len cap,Ab a t= .slice (some ⟨b,0,none⟩) len cap/\v= .pointer (some ⟨b,off,none⟩)
 | .gone=>True
 | .buf E sz l=>KQ B w H E sz l v
 | .Nk x E sz l=>KQ B w H E sz l x
 | .Cx T _ ps=>∃b cs,v= .pointer (some ⟨b,0,none⟩)/\w.heap[b]? =some (.cells cs T (0,0))/\H b=none/\B.EI b/\IV B a w H ps cs.toList/\Nj w ps cs.toList/\ ¬Fv w b ps cs.toList
 | .Gn _ _ Eb sz E1=>Qj B w H Eb sz E1 v
 | .Qt Eb sz l i=>∃x,v= .tuple #[x,.int .i64 i]/\KQ B w H Eb sz l x
 | .inv I=>I.p w H/\I.n=B.lo
 | .K8 t x=>Ab a t=x
 | .Dw l rc=>w.heap[l]? =some (.loop rc)/\H l=none/\B.EI l
 | .vec k us=>v=aX a k us
 | .SV t i=>∃x,Ab a t= .tuple #[x,.int .i64 i]
 | .F3 E pre post l=>∃g c cur xs,v= .slice (some ⟨g,pre.length,none⟩) l.length c/\w.heap[g]? =some (.cells cur E (0,0))/\cur.toList=pre++(xs++post)/\DJ H l xs/\H g=none/\B.EI g
 | .win t j n sz=>∃g len cap c,Ab a t= .slice (some ⟨g,0,none⟩) len cap/\v= .slice (some ⟨g,j*sz,none⟩) n c
 | .Mv t i sz=>∃g o n c,Ab a t= .slice (some ⟨g,o,none⟩) n c/\v= .pointer (some ⟨g,o+i*sz,none⟩)
 | .I5 T E l=>∃b p r,v= .pointer (some ⟨b,0,none⟩)/\w.heap[b]? =some (.cells #[p,r] T (0,0))/\(p= .pointer none\/p= .pointer (some ⟨b,0,none⟩))/\H b=none/\B.EI b/\KQ B w H E 1 l r/\r.ownBlock≠some b
 | .JC L seen=>∃r m es sn,v= .pointer (some ⟨r,0,none⟩)/\w.heap[r]? =some (.mapIter (some m) es.size sn es.size)/\H r=none/\B.EI r/\H m=some (.map es es.size)/\okM H 0 L es.toList/\sn.toList=seen
def AN.owns(w:AQ)(v:AR)(b:Nat):AN->Prop
 | .own _ _=>∃ad,v= .pointer (some ad)/\ad.block=b
 | .buf _ _ _=>v.ownBlock=some b
 | .Nk x _ _ _=>x.ownBlock=some b
 | .opt c s=>c=true/\s.owns w v b
 | .Cx T _ ps=>∃c,v= .pointer (some ⟨c,0,none⟩)/\(b=c\/∃cs,w.heap[c]? =some (.cells cs T (0,0))/\Fv w b ps cs.toList)
 | .Gn _ _ _ _ E1=>PE w E1 v b
 | .Qt _ _ _ _=>∃x i,v= .tuple #[x,i]/\x.ownBlock=some b
 | .inv I=>I.M b
 | .Dw l _=>b=l
 | .JC _ _=>∃ad,v= .pointer (some ad)/\ad.block=b
 | .F3 _ _ _ _=>v.ownBlock=some b
 | .I5 T _ _=>∃c,v= .pointer (some ⟨c,0,none⟩)/\(b=c\/∃p r,w.heap[c]? =some (.cells #[p,r] T (0,0))/\r.ownBlock=some b)
 |_=>False
def Qf:A3 Bt->A3 Nat
 |[]=>[]
 | .sm u::l=>u::Qf l
 |_::l=>Qf l
def AN.By:AN->A3 Nat
 | .ptr t _=>[t]
 | .same t=>[t]
 | .Jy t _ _=>[t]
 | .bpf t _=>[t]
 | .opt _ s=>s.By
 | .Cx _ _ ps=>Qf ps
 | .K8 t _=>[t]
 | .vec _ us=>us
 | .SV t _=>[t]
 | .win t _ _ _=>[t]
 | .Mv t _ _=>[t]
 |_=>[]
abbrev Ctx:=A3<|Nat×AN
def Marks(B:Ae P)(w:AQ)(H:HV):A3 Deferred->Prop
 |[]=>True
 |d::ds=>(∃D,d={target:= .collected D,args:= #[]}/\(B.rd=none->B.n<=D)/\w.heap[D]? =some (.deferred<|some [])/\H D=none/\∀e∈ds,e≠d)/\Marks B w H ds
def Marks.kept{B:Ae P}{w w':AQ}{H H':HV}:∀{ds:A3 Deferred},Marks B w H ds->(∀D,({target:= .collected D,args:= #[]}:Deferred)∈ds->w.heap[D]? =some (.deferred<|some [])->H D=none->w'.heap[D]? =some (.deferred<|some [])/\H' D=none)->Marks B w' H' ds
 |[],_,_=>trivial
 |_::_,⟨⟨D,e,h1,h2,h3,h4⟩,r⟩,k=>⟨⟨D,e,h1,(k D (by simp[e]) h2 h3).1,(k D (by simp[e]) h2 h3).2,h4⟩,r.kept λD hD=>k D<|Bq _ hD⟩
structure Sat(w0:Ae P)(H0:HV)(N:Nat)(Γ:Ctx)(a:Act)(w:AQ)(H:HV):Prop where
 nd:Marks w0 w H (a.defers++w0.ds)
 sz:a.tmps.size=N
 below:Kept w0 w
 GK:w0.Iv=false->∀r,r<w0.n-> ¬w0.X r->H r=H0 r
 sub:∀r o,H r=some o->w.heap[r]? =some o
 holds:∀p∈Γ,p.2.holds w0 a w H<|Ab a p.1
 sep:∀p∈Γ,∀q∈Γ,p.1≠q.1->∀b,p.2.owns w (Ab a p.1) b-> ¬q.2.owns w (Ab a q.1) b
 gl:KP P H
def Sat.weaken{Γ Al:Ctx}(h:Sat w0 H0 N Γ a w H)(hs:∀p∈Al,p∈Γ):Sat w0 H0 N Al a w H:=
 {h with holds:=λp hp=>h.holds p<|hs p hp,sep:=λp hp q hq=>h.sep p (hs p hp) q (hs q hq)}
theorem HH(sub:∀r o,H r=some o->w.heap[r]? =some o){r:Nat}{o:Obj}(h:H r=some o):r<w.heap.size:=by grind
structure Ext(w:AQ)(H:HV)(w':AQ)(H':HV):Prop where
 below:FL w.heap.size w w'
 le:HV.le H H'
 GK:∀r,r<w.heap.size->H' r=H r
 sub:∀r o,H' r=some o->w'.heap[r]? =some o
def Ext.refl{w:AQ}{H:HV}(sub:∀r o,H r=some o->w.heap[r]? =some o):Ext w H w H:=
 ⟨FL.refl _ _,HV.le.refl _,λ_ _=>rfl,sub⟩
def Ext.LL(h:Ext w H w' H')(n:Nat)(p:Nat->Prop):Far n p w H w' H':=
 ⟨h.below.size,h.below.os,h.below.tape,h.below.output,h.below.drawn,h.le,λb hb _=>h.below.block b hb,λb hb _=>h.GK b hb,h.sub⟩
def Ext.grown(sub:∀r o,H r=some o->w.heap[r]? =some o)(hb:FL w.heap.size w w'):Ext w H w' (grow H w w'):=by
 refine⟨hb,?_,?_,?_⟩
 ·intro r o h;have:=HH sub h;simp[grow,this,h]
 ·intro r h;simp[grow,h]
 ·intro r o h;by_cases hr:r<w.heap.size
  ·simp[grow,hr] at h;rw[hb.block r hr];exact sub r o h
  ·simpa[grow,hr] using h
def Ext.alloc{w:AQ}{H:HV}(sub:∀r o,H r=some o->w.heap[r]? =some o)(o:Obj):Ext w H (w.alloc o) H:=by
 refine⟨FL.alloc _,HV.le.refl _,λ_ _=>rfl,?_⟩;intro r x h;have:=HH sub h;rw[heap_alloc_old w o this];exact sub r x h
def bD(B:Ae P)(w:AQ)(H:HV)(b:Nat):Prop:=b<w.heap.size/\B.EI b/\H b=none/\∃o,w.heap[b]? =some o/\Zk o
def lt_of_heap{o:Obj}(h:w.heap[b]? =some o):b<w.heap.size:=(S3.1 h).1
def I8{sz:Nat}(h:KQ B w H E sz l v)(hb:v.ownBlock=some b):bD B w H b:=by
 obtain⟨xs,hr,ho,hn⟩:=h;refine⟨(hr.lt b hb).2,(hn b hb).2,(hn b hb).1,?_⟩;obtain⟨_,(⟨e,_⟩|⟨g,cap,cur,e,_,hc,_⟩)⟩:=hr
 ·subst e;simp[Value.ownBlock] at hb
 ·subst e;simp[Value.ownBlock] at hb;subst hb;exact⟨_,hc,trivial⟩
def xS{B:Ae P}{w:AQ}{H:HV}{Eb:Ah}{sz:Nat}{b:Nat}:∀{i:Nat} {l:A3 (Ty×Cv)} {es:A3 MapEntry},K9 B w H Eb sz i l es->Ht b l es->bD B w H b
 |_,[],_,_,h=>by simp[Ht] at h
 |_,(_,_)::_,[],_,h=>by simp[Ht] at h
 |i,(k,e)::l,x::xs,⟨_,he,_,hr⟩,h=>by
  rcases h with h|h
  ·cases e with
   |val τ=>exact h.elim
   |any=>exact h.elim
   |buf l=>exact I8 he h
  ·exact xS hr h
def Rq{sz:Nat}{E1:A3 (Ty×Cv)}(h:Qj B w H Eb sz E1 v)(hb:PE w E1 v b):bD B w H b:=by
 obtain⟨r,es,e,hr,hn,hm,ho,hs⟩:=h;subst e;rcases hb with hb|⟨r',I4,e',Ke,hb⟩
 ·cases hb;exact⟨lt_of_heap hr,hm,hn,_,hr,trivial⟩
 ·cases e';rw[hr] at Ke;cases Ke;exact xS ho hb
def ak7:∀{p:Bt},p.holds B a w H v->p.owns w v b->bD B w H b
 | .val _,_,h=>h.elim
 | .any _ _,_,h=>h.elim
 | .sm _,_,h=>h.elim
 | .buf _ _ _,k,h=>I8 k h
 | .map _ _ _ _ _,k,h=>Rq k h
def N8{p:Bt}{rest:A3 AR}(h:Shape p.n p.agg v):Gp p.agg ((v.cells.toList++rest).take p.n).toArray=v/\(v.cells.toList++rest).drop p.n=rest:=by
 have hs:=h.size;constructor
 ·have:(List.take p.n<|v.cells.toList++rest).toArray=v.cells:=by
   rw[<-hs,<-Ex,gN]
  rw[this];exact h.eq.symm
 ·rw[<-hs,<-Ex,To]
def Q4{B:Ae P}{a:Act}{w:AQ}{H:HV}{b:Nat}:∀{ps:A3 Bt} {cs:A3 AR},IV B a w H ps cs->Fv w b ps cs->bD B w H b
 |[],_,_,h=>h.elim
 |p::l,_,⟨v,rest,e,C6,hv,hr⟩,h=>by
  subst e;obtain⟨e1,e2⟩:=N8 (rest:=rest) C6;rcases h with h|h
  ·rw[e1] at h;exact ak7 hv h
  ·rw[e2] at h;exact Q4 hr h
def AN.J5{B:Ae P}{a:Act}{w:AQ}{H:HV}{v:AR}{b:Nat}:∀{s:AN},s.holds B a w H v->s.owns w v b->b<w.heap.size/\H b=none/\∃o,w.heap[b]? =some o/\Zk o
 | .val _,_,h=>h.elim
 | .LF _,_,h=>h.elim
 | .ptr _ _,_,h=>h.elim
 | .same _,_,h=>h.elim
 | .Jy _ _ _,_,h=>h.elim
 | .bpf _ _,_,h=>h.elim
 | .gone,_,h=>h.elim
 | .K8 _ _,_,h=>h.elim
 | .vec _ _,_,h=>h.elim
 | .SV _ _,_,h=>h.elim
 | .own T τ,⟨c,x,e,hb,hx,hn,hB⟩,⟨ad,e',h⟩=>by
  subst e;cases e';cases h;exact⟨lt_of_heap hb,hn,_,hb,trivial⟩
 | .buf _ _ _,h,k=>⟨(I8 h k).1,(I8 h k).2.2⟩
 | .Nk _ _ _ _,h,k=>⟨(I8 h k).1,(I8 h k).2.2⟩
 | .Cx T _ ps,⟨c,cs,e,hb,hn,hB,ho,hs,hx⟩,⟨c',e',h⟩=>by
  subst e;cases e';rcases h with h|⟨E2,BD,h⟩
  ·subst h;exact⟨lt_of_heap hb,hn,_,hb,trivial⟩
  ·rw[hb] at BD;cases BD;exact⟨(Q4 ho h).1,(Q4 ho h).2.2⟩
 | .Gn _ _ _ _ _,h,k=>⟨(Rq h k).1,(Rq h k).2.2⟩
 | .Qt _ _ _ _,⟨x,e,h⟩,⟨x',i',e',k⟩=>by
  rw[e] at e';cases e';exact⟨(I8 h k).1,(I8 h k).2.2⟩
 | .opt c s,h,⟨hc,k⟩=>AN.J5 (s:=s) (h.1 hc) k
 | .inv I,⟨h,_⟩,k=>I.lt h k
 | .Dw l _,⟨h,h2,h3⟩,k=>by
  have k:b=l:=k;subst k;exact⟨lt_of_heap h,h2,_,h,trivial⟩
 | .JC _ _,⟨r,m,es,sn,e,h1,h2,_⟩,⟨ad,e',h⟩=>by
  subst e;cases e';cases h;exact⟨lt_of_heap h1,h2,_,h1,trivial⟩
 | .win _ _ _ _,_,h=>h.elim
 | .Mv _ _ _,_,h=>h.elim
 | .F3 _ _ _ _,⟨g,c,cur,xs,e,hb,_,_,hn,_⟩,h=>by
  subst e;cases h;exact⟨lt_of_heap hb,hn,_,hb,trivial⟩
 | .I5 _ _ _,⟨c,p,r,e,hb,_,hn,_,ho,_⟩,⟨c',e',h⟩=>by
  subst e;cases e';rcases h with h|⟨p',r',BD,h⟩
  ·subst h;exact⟨lt_of_heap hb,hn,_,hb,trivial⟩
  ·have e2:=hb.symm.trans BD;simp at e2;obtain⟨rfl,rfl⟩:=e2;exact⟨(I8 ho h).1,(I8 ho h).2.2⟩
def Vs{sz:Nat}(h:KQ B w H E sz l v)(hle:HV.le H H')
 (hk:∀b,v.ownBlock=some b->w'.heap[b]? =w.heap[b]? /\H' b=H b):KQ B w' H' E sz l v:=by
 obtain⟨xs,⟨hl,hr⟩,ho,hn⟩:=h;refine⟨xs,⟨hl,?_⟩,Q8 hle ho,λb hb=>⟨by rw[(hk b hb).2];exact(hn b hb).1,(hn b hb).2⟩⟩;rcases hr with hr|⟨g,cap,cur,e,h1,hc,h2⟩
 ·exact .inl hr
 ·refine .inr ⟨g,cap,cur,e,h1,?_,h2⟩;rw[(hk g (by rw[e];rfl)).1];exact hc
def pf{B:Ae P}{w w':AQ}{H H':HV}{Eb:Ah}{sz:Nat}(hle:HV.le H H'):∀{i:Nat} {l:A3 (Ty×Cv)} {es:A3 MapEntry},K9 B w H Eb sz i l es->
  (∀b,Ht b l es->w'.heap[b]? =w.heap[b]? /\H' b=H b)->K9 B w' H' Eb sz i l es
 |_,[],[],_,_=>trivial
 |_,[],_::_,h,_=>h.elim
 |_,(_,_)::_,[],h,_=>h.elim
 |i,(k,e)::l,x::xs,⟨hk,he,hb,hr⟩,hx=>by
  refine⟨k.mono hle hk,?_,hb,pf hle hr λb h=>hx b<| .inr h⟩;cases e with
  |val τ=>exact τ.mono hle he
  |any=>trivial
  |buf l=>exact Vs he hle λb h=>hx b<| .inl h
def zj{sz:Nat}{E1:A3 (Ty×Cv)}(h:Qj B w H Eb sz E1 v)(hle:HV.le H H')
 (hk:∀b,PE w E1 v b->w'.heap[b]? =w.heap[b]? /\H' b=H b):Qj B w' H' Eb sz E1 v/\∀b,PE w' E1 v b↔PE w E1 v b:=by
 obtain⟨r,es,e,hr,hn,hm,ho,hs⟩:=h;subst e;have k0:=hk r<| .inl rfl
 have Ke:w'.heap[r]? =some (.map es es.size):=by rw[k0.1];exact hr
 refine⟨⟨r,es,rfl,Ke,by rw[k0.2];exact hn,hm,pf hle ho λb h=>hk b<| .inr ⟨r,es,rfl,hr,h⟩,hs⟩,λb=>?_⟩;constructor
 ·rintro(h|⟨r1,es1,e1,h1,h2⟩)
  ·exact .inl h
  ·cases e1;rw[Ke] at h1;cases h1;exact .inr ⟨r,es,rfl,hr,h2⟩
 ·rintro(h|⟨r1,es1,e1,h1,h2⟩)
  ·exact .inl h
  ·cases e1;rw[hr] at h1;cases h1;exact .inr ⟨r,es,rfl,Ke,h2⟩
def akA(hle:HV.le H H'):∀{p:Bt},p.holds B a w H v->(∀b,p.owns w v b->w'.heap[b]? =w.heap[b]? /\H' b=H b)->
  p.holds B a w' H' v/\∀b,p.owns w' v b↔p.owns w v b
 | .val τ,h,_=>⟨τ.mono hle h,λ_=>Iff.rfl⟩
 | .any _ _,h,_=>⟨h,λ_=>Iff.rfl⟩
 | .sm _,h,_=>⟨h,λ_=>Iff.rfl⟩
 | .buf _ _ _,h,k=>⟨Vs h hle k,λ_=>Iff.rfl⟩
 | .map _ _ _ _ _,h,k=>zj h hle k
def ft{B:Ae P}{a:Act}{w w':AQ}{H H':HV}(hle:HV.le H H'):∀{ps:A3 Bt} {cs:A3 AR},IV B a w H ps cs->(∀b,Fv w b ps cs->w'.heap[b]? =w.heap[b]? /\H' b=H b)->
  IV B a w' H' ps cs/\(∀b,Fv w' b ps cs↔Fv w b ps cs)/\(Nj w ps cs->Nj w' ps cs)
 |[],_,h,_=>⟨h,λ_=>Iff.rfl,λh=>h⟩
 |p::l,_,⟨v,rest,e,C6,hv,hr⟩,k=>by
  subst e;obtain⟨e1,e2⟩:=N8 (rest:=rest) C6;simp only[Fv,Nj,e1,e2] at k⊢;obtain⟨h1,h2⟩:=akA hle hv λb h=>k b<| .inl h
  obtain⟨h3,h4,h5⟩:=ft hle hr λb h=>k b<| .inr h
  refine⟨⟨v,rest,rfl,C6,h1,h3⟩,λb=>or_congr (h2 b)<|h4 b,λ⟨a1,a2⟩=>⟨λb hb=>?_,h5 a2⟩⟩;rw[h4];exact a1 b<|(h2 b).1 hb
def AN.F2:AN->Bool
 | .inv _=>true
 | .opt _ s=>s.F2
 |_=>false
def AN.VT{B:Ae P}{a:Act}{w w':AQ}{H H':HV}{v:AR}{n:Nat}:∀{s:AN},s.holds B a w H v->(s.F2=true->n=B.lo)->Far n (λb=>s.owns w v b) w H w' H'->s.holds B a w' H' v/\∀b,s.owns w' v b↔s.owns w v b
 | .val τ,h,_,F=>⟨τ.mono F.le h,λ_=>Iff.rfl⟩
 | .LF _,⟨vs,e,k⟩,_,F=>⟨⟨vs,e,Yk F.le k⟩,λ_=>Iff.rfl⟩
 | .own T τ,⟨b,x,e,hb,hx,hn,hB⟩,_,F=>by
  subst e;have hlt:=lt_of_heap hb;have ho:(AN.own T τ).owns w (.pointer<|some ⟨b,0,none⟩) b:=⟨_,rfl,rfl⟩;exact⟨⟨b,x,rfl,by rw[F.E6 b hlt<| .inr ho];exact hb,τ.mono F.le hx,by rw[F.view b hlt<| .inr ho];exact hn,hB⟩,λ_=>Iff.rfl⟩
 | .ptr _ _,h,_,_=>⟨h,λ_=>Iff.rfl⟩
 | .opt c s,h,hi,F=>by
  cases c with
  |false=>exact⟨⟨(λe=>by cases e),h.2⟩,λb=>by simp[AN.owns]⟩
  |true=>
   obtain⟨h1,h2⟩:=VT (s:=s) (h.1 rfl) hi<|F.imp (BM _) λb hb=>⟨rfl,hb⟩
   exact⟨⟨λ_=>h1,h.2⟩,λb=>by simp only[AN.owns,h2]⟩
 | .same _,h,_,_=>⟨h,λ_=>Iff.rfl⟩
 | .Jy _ _ _,h,_,_=>⟨h,λ_=>Iff.rfl⟩
 | .bpf _ _,h,_,_=>⟨h,λ_=>Iff.rfl⟩
 | .gone,h,_,_=>⟨h,λ_=>Iff.rfl⟩
 | .K8 _ _,h,_,_=>⟨h,λ_=>Iff.rfl⟩
 | .vec _ _,h,_,_=>⟨h,λ_=>Iff.rfl⟩
 | .SV _ _,h,_,_=>⟨h,λ_=>Iff.rfl⟩
 | .buf _ _ _,h,_,F=>⟨Vs h F.le λb hb=>⟨F.E6 b (I8 h hb).1<| .inr hb,F.view b (I8 h hb).1<| .inr hb⟩,λ_=>Iff.rfl⟩
 | .Nk _ _ _ _,h,_,F=>⟨Vs h F.le λb hb=>⟨F.E6 b (I8 h hb).1<| .inr hb,F.view b (I8 h hb).1<| .inr hb⟩,λ_=>Iff.rfl⟩
 | .Cx T g ps,⟨c,cs,e,hb,hn,hB,ho,hs,hx⟩,_,F=>by
  subst e;have hlt:=lt_of_heap hb;have oc:(AN.Cx T g ps).owns w (.pointer<|some ⟨c,0,none⟩) c:=⟨c,rfl,.inl rfl⟩;have op:∀b,Fv w b ps cs.toList->(AN.Cx T g ps).owns w (.pointer<|some ⟨c,0,none⟩) b:=λb h=>⟨c,rfl,.inr ⟨cs,hb,h⟩⟩
  have BD:w'.heap[c]? =some (.cells cs T (0,0)):=by rw[F.E6 c hlt<| .inr oc];exact hb
  obtain⟨h1,h2,h3⟩:=ft F.le ho λb h=>⟨F.E6 b (Q4 ho h).1<| .inr<|op b h,F.view b (Q4 ho h).1<| .inr<|op b h⟩
  refine⟨⟨c,cs,rfl,BD,by rw[F.view c hlt<| .inr oc];exact hn,hB,h1,h3 hs,by rw[h2];exact hx⟩,λb=>?_⟩;constructor
  ·rintro⟨c',e',h⟩;cases e';rcases h with h|⟨E2,EU,h⟩
   ·exact⟨c,rfl,.inl h⟩
   ·rw[BD] at EU;cases EU;exact⟨c,rfl,.inr ⟨cs,hb,(h2 b).1 h⟩⟩
  ·rintro⟨c',e',h⟩;cases e';rcases h with h|⟨E2,EU,h⟩
   ·exact⟨c,rfl,.inl h⟩
   ·rw[hb] at EU;cases EU;exact⟨c,rfl,.inr ⟨cs,BD,(h2 b).2 h⟩⟩
 | .Gn _ _ _ _ _,h,_,F=>zj h F.le λb hb=>⟨F.E6 b (Rq h hb).1<| .inr hb,F.view b (Rq h hb).1<| .inr hb⟩
 | .Qt _ _ _ _,⟨x,e,h⟩,_,F=>by
  subst e;exact⟨⟨x,rfl,Vs h F.le λb hb=>⟨F.E6 b (I8 h hb).1<| .inr ⟨x,_,rfl,hb⟩,F.view b (I8 h hb).1<| .inr ⟨x,_,rfl,hb⟩⟩⟩,λ_=>Iff.rfl⟩
 | .Dw l rc,⟨h,h2,h3⟩,_,F=>⟨⟨by rw[F.E6 l (lt_of_heap h)<| .inr rfl];exact h,by rw[F.view l (lt_of_heap h)<| .inr rfl];exact h2,h3⟩,λ_=>Iff.rfl⟩
 | .JC L seen,⟨r,m,es,sn,e,h1,h2,h3,h4,h5,h6⟩,_,F=>by
  subst e;have ho:(AN.JC L seen).owns w (.pointer<|some ⟨r,0,none⟩) r:=⟨_,rfl,rfl⟩;exact⟨⟨r,m,es,sn,rfl,by rw[F.E6 r (lt_of_heap h1)<| .inr ho];exact h1,by rw[F.view r (lt_of_heap h1)<| .inr ho];exact h2,h3,F.le _ _ h4,oR F.le h5,h6⟩,λ_=>Iff.rfl⟩
 | .win _ _ _ _,h,_,_=>⟨h,λ_=>Iff.rfl⟩
 | .Mv _ _ _,h,_,_=>⟨h,λ_=>Iff.rfl⟩
 | .F3 E pre post l,⟨g,c,cur,xs,e,hb,hc,ho,hn,hB⟩,_,F=>by
  subst e;have oc:(AN.F3 E pre post l).owns w (.slice (some ⟨g,pre.length,none⟩) l.length c) g:=rfl;exact⟨⟨g,c,cur,xs,rfl,by rw[F.E6 g (lt_of_heap hb)<| .inr oc];exact hb,hc,Q8 F.le ho,by rw[F.view g (lt_of_heap hb)<| .inr oc];exact hn,hB⟩,λ_=>Iff.rfl⟩
 | .I5 T E l,⟨c,p,r,e,hb,hp,hn,hB,ho,hx⟩,_,F=>by
  subst e;have hlt:=lt_of_heap hb;have oc:(AN.I5 T E l).owns w (.pointer<|some ⟨c,0,none⟩) c:=⟨c,rfl,.inl rfl⟩;have op:∀b,r.ownBlock=some b->(AN.I5 T E l).owns w (.pointer<|some ⟨c,0,none⟩) b:=λb h=>⟨c,rfl,.inr ⟨p,r,hb,h⟩⟩
  have BD:w'.heap[c]? =some (.cells #[p,r] T (0,0)):=by rw[F.E6 c hlt<| .inr oc];exact hb
  have h1:=Vs ho F.le λb h=>⟨F.E6 b (I8 ho h).1<| .inr<|op b h,F.view b (I8 ho h).1<| .inr<|op b h⟩
  refine⟨⟨c,p,r,rfl,BD,hp,by rw[F.view c hlt<| .inr oc];exact hn,hB,h1,hx⟩,λb=>?_⟩;constructor
  ·rintro⟨c',e',h⟩;cases e';rcases h with h|⟨p',r',EU,h⟩
   ·exact⟨c,rfl,.inl h⟩
   ·exact⟨c,rfl,.inr ⟨p',r',by rw[hb,<-BD];exact EU,h⟩⟩
  ·rintro⟨c',e',h⟩;cases e';rcases h with h|⟨p',r',EU,h⟩
   ·exact⟨c,rfl,.inl h⟩
   ·exact⟨c,rfl,.inr ⟨p',r',by rw[BD,<-hb];exact EU,h⟩⟩
 | .inv I,⟨h,e⟩,hi,F=>by
  have:n=I.n:=by rw[hi rfl,e]
  exact⟨⟨I.step h<|this▸F,e⟩,λ_=>Iff.rfl⟩
def AN.YZ{s:AN}(h:s.holds B a w H v)(F:Far B.lo (λb=>s.owns w v b) w H w' H'):s.holds B a w' H' v/\∀b,s.owns w' v b↔s.owns w v b:=
 AN.VT h (λ_=>rfl) F
def AN.aj4(he:Ext w H w' H'){s:AN}(h:s.holds B a w H v):s.holds B a w' H' v:=(AN.YZ h<|he.LL _ _).1
def AN.fO(he:Ext w H w' H'){s:AN}(h:s.holds B a w H v)(b:Nat):s.owns w' v b↔s.owns w v b:=(AN.YZ h<|he.LL _ _).2 b
def P1{t:Nat}(h:d≠t):Ab (a.put (some d) v) t=Ab a t:=by
 simp[Ab,Act.put,Array.getElem?_setIfInBounds_ne h]
def VO(h:d<a.tmps.size):Ab (a.put (some d) v) d=v:=by
 simp[Ab,Act.put,h]
def Td{B:Ae P}{a a':Act}{w:AQ}{H:HV}:∀{ps:A3 Bt} {cs:A3 AR},(∀t∈Qf ps,Ab a' t=Ab a t)->IV B a w H ps cs->IV B a' w H ps cs
 |[],_,_,h=>h
 |p::l,_,e,⟨v,rest,e1,C6,hv,hr⟩=>by
  cases p with
  |sm u=>exact⟨v,rest,e1,C6,⟨by rw[e u (by simp[Qf])];exact hv.1,hv.2⟩,Td (λt ht=>e t (by simp[Qf,ht])) hr⟩
  |val _=>exact⟨v,rest,e1,C6,hv,Td e hr⟩
  |any _ _=>exact⟨v,rest,e1,C6,hv,Td e hr⟩
  |buf _ _ _=>exact⟨v,rest,e1,C6,hv,Td e hr⟩
  |map _ _ _ _ _=>exact⟨v,rest,e1,C6,hv,Td e hr⟩
def AN.P5{B:Ae P}{a a':Act}{w:AQ}{H:HV}{v:AR}:∀{s:AN},(∀t∈s.By,Ab a' t=Ab a t)->s.holds B a w H v->s.holds B a' w H v
 | .val _,_,h=>h
 | .LF _,_,h=>h
 | .own _ _,_,h=>h
 | .ptr t off,e,⟨b,h1,h2⟩=>⟨b,by rw[e t (by simp[AN.By])];exact h1,h2⟩
 | .opt c s,e,h=>⟨λhc=>P5 (s:=s) e<|h.1 hc,h.2⟩
 | .same t,e,h=>by show v=_;rw[e t (by simp[AN.By])];exact h
 | .Jy t _ _,e,⟨b,len,cap,h1,h2⟩=>⟨b,len,cap,by rw[e t (by simp[AN.By])];exact h1,h2⟩
 | .bpf t _,e,⟨b,len,cap,h1,h2⟩=>⟨b,len,cap,by rw[e t (by simp[AN.By])];exact h1,h2⟩
 | .gone,_,h=>h
 | .buf _ _ _,_,h=>h
 | .Nk _ _ _ _,_,h=>h
 | .Cx _ _ _,e,⟨c,cs,h1,h2,h3,h4,h5,h6⟩=>⟨c,cs,h1,h2,h3,h4,Td e h5,h6⟩
 | .Gn _ _ _ _ _,_,h=>h
 | .Qt _ _ _ _,_,h=>h
 | .inv _,_,h=>h
 | .SV t i,e,⟨x,h⟩=>⟨x,by rw[e t (by simp[AN.By])];exact h⟩
 | .vec k us,e,h=>by
  have:us.map (Ab a')=us.map (Ab a):=gn e;show v=aX a' k us;rw[show aX a' k us=aX a k us by simp only[aX,this]];exact h
 | .K8 t _,e,h=>by show Ab a' t=_;rw[e t (by simp[AN.By])];exact h
 | .Dw _ _,_,h=>h
 | .JC _ _,_,h=>h
 | .I5 _ _ _,_,h=>h
 | .F3 _ _ _ _,_,h=>h
 | .win t _ _ _,e,⟨g,len,cap,c,h1,h2⟩=>⟨g,len,cap,c,by rw[e t (by simp[AN.By])];exact h1,h2⟩
 | .Mv t _ _,e,⟨g,o,n,c,h1,h2⟩=>⟨g,o,n,c,by rw[e t (by simp[AN.By])];exact h1,h2⟩
def JT(d:Nat)(Γ:Ctx):Bool:=Γ.all λp=>p.1 !=d&& !p.2.By.contains d
def YK{A:Ctx}(h:JT d A=true):∀p∈A,p.1≠d/\d∉p.2.By:=by
 intro p hp;have:=DZ.1 h p hp;simpa using this
def put_defers{d:A9 Tmp}:(a.put d v).defers=a.defers:=by cases d<;>rfl
def vW{Γ:Ctx}(h:Sat w0 H0 N Γ a w H){s:AN}(hd:d<N)(hf:JT d Γ=true)(hl:d∉s.By)
 (hs:s.holds w0 a w H v)(hfr:∀b,s.owns w v b->∀q∈Γ,¬q.2.owns w (Ab a q.1) b):Sat w0 H0 N ((d,s)::Γ) (a.put (some d) v) w H:=by
 have hd':d<a.tmps.size:=h.sz▸hd;have JD:∀p∈Γ,d≠p.1/\d∉p.2.By:=λp hp=>⟨λe=>(YK hf p hp).1 e.symm,(YK hf p hp).2⟩
 refine⟨by rw[put_defers];exact h.nd,by simp[Act.put,h.sz],h.below,h.GK,h.sub,?_,?_,h.gl⟩
 ·intro p hp;rcases Ai.1 hp with e|hp
  ·subst e;simp only[VO hd'];exact AN.P5 (λt ht=>P1<|λe=>hl<|e▸ht) hs
  ·obtain⟨h1,h2⟩:=JD p hp;rw[P1 h1];exact AN.P5 (λt ht=>P1<|λe=>h2<|e▸ht)<|h.holds p hp
 ·intro p hp q hq hne b hb BD;rcases Ai.1 hp with e|hp<;>rcases Ai.1 hq with e'|hq
  ·subst e;subst e';exact hne rfl
  ·subst e;simp only[VO hd'] at hb;rw[P1 (JD q hq).1] at BD;exact hfr b hb q hq BD
  ·subst e';simp only[VO hd'] at BD;rw[P1 (JD p hp).1] at hb;exact hfr b BD p hp hb
  ·rw[P1 (JD p hp).1] at hb;rw[P1 (JD q hq).1] at BD;exact h.sep p hp q hq hne b hb BD
def fJ{Γ:Ctx}(h:Sat w0 H0 N Γ a w H)(he:Ext w H w' H'):Sat w0 H0 N Γ a w' H':=by
 refine⟨h.nd.kept λD _ h1 h2=>⟨by rw[he.below.block D<|lt_of_heap h1];exact h1,by rw[he.GK D<|lt_of_heap h1];exact h2⟩,h.sz,h.below.step he.below,λhv r hr hx=>?_,he.sub,?_,?_,h.gl.mono he.le⟩
 ·rw[he.GK r<|J8 hr h.below.size,h.GK hv r hr hx]
 ·intro p hp;exact AN.aj4 he<|h.holds p hp
 ·intro p hp q hq hne b hb BD;exact h.sep p hp q hq hne b ((AN.fO he (h.holds p hp) b).1 hb)<|(AN.fO he (h.holds q hq) b).1 BD
def Rk{Γ:Ctx}(h:Sat w0 H0 N Γ a w H)(he:Ext w H w' H')
 {s:AN}(hd:d<N)(hf:JT d Γ=true)(hl:d∉s.By)(hs:s.holds w0 a w' H' v)(hfr:∀b,s.owns w' v b->w.heap.size<=b):
  Sat w0 H0 N ((d,s)::Γ) (a.put (some d) v) w' H':=
 vW (fJ h he) hd hf hl hs λb hb q hq BD=>by
  have h1:=hfr b hb;have h2:=(AN.J5 (h.holds q hq)<|(AN.fO he (h.holds q hq) b).1 BD).1;omega
def AN.free:AN->Bool
 | .own _ _=>false
 | .buf _ _ _=>false
 | .Nk _ _ _ _=>false
 | .opt _ s=>s.free
 | .Cx _ _ _=>false
 | .Gn _ _ _ _ _=>false
 | .Qt _ _ _ _=>false
 | .inv _=>false
 | .Dw _ _=>false
 | .JC _ _=>false
 | .I5 _ _ _=>false
 | .F3 _ _ _ _=>false
 |_=>true
def AN.free_spec{w:AQ}{v:AR}{b:Nat}:∀{s:AN},s.free=true-> ¬s.owns w v b
 | .val _,_,h=>h
 | .LF _,_,h=>h
 | .ptr _ _,_,h=>h
 | .same _,_,h=>h
 | .Jy _ _ _,_,h=>h
 | .bpf _ _,_,h=>h
 | .gone,_,h=>h
 | .K8 _ _,_,h=>h
 | .vec _ _,_,h=>h
 | .SV _ _,_,h=>h
 | .opt c s,e,h=>AN.free_spec (s:=s) e h.2
 | .own _ _,e,_=>by cases e
 | .buf _ _ _,e,_=>by cases e
 | .Nk _ _ _ _,e,_=>by cases e
 | .Cx _ _ _,e,_=>by cases e
 | .Gn _ _ _ _ _,e,_=>by cases e
 | .Qt _ _ _ _,e,_=>by cases e
 | .inv _,e,_=>by cases e
 | .Dw _ _,e,_=>by cases e
 | .JC _ _,e,_=>by cases e
 | .I5 _ _ _,e,_=>by cases e
 | .F3 _ _ _ _,e,_=>by cases e
 | .win _ _ _ _,_,h=>h
 | .Mv _ _ _,_,h=>h
def Ve{Γ Al:Ctx}{ds:A3 Deferred}(hs:Sat w0 H0 N Γ a w H)(hk:Kept w0 w')(hdr:Gu w w')
 (hold:w0.Iv=false->∀r,r<w0.n-> ¬w0.X r->H' r=H r)(hsz:w.heap.size<=w'.heap.size)(hle:HV.le H H')(BE:∀r o,H' r=some o->w'.heap[r]? =some o)
 (Fp:(∃p∈Al,p.2.F2=true)->∀b,b<w.heap.size->b<w0.lo->w'.heap[b]? =w.heap[b]? /\H' b=H b)
 (hp:∀p∈Al,p∈Γ/\∀b,p.2.owns w (Ab a p.1) b->w'.heap[b]? =w.heap[b]? /\H' b=H b)(hm:Marks w0 w' H' (ds++w0.ds)):Sat w0 H0 N Al {a with defers:=ds} w' H':=by
 have LL:∀p∈Al,Far (if p.2.F2 then w0.lo else 0) (λb=>p.2.owns w (Ab a p.1) b) w H w' H':=λp h=>by
  have key:∀b,b<w.heap.size->(b<(if p.2.F2 then w0.lo else 0)\/p.2.owns w (Ab a p.1) b)->w'.heap[b]? =w.heap[b]? /\H' b=H b:=λb hb h1=>by
   rcases h1 with h1|h1
   ·cases hi:p.2.F2 with
    |true=>rw[hi,if_pos rfl] at h1;exact Fp ⟨p,h,hi⟩ b hb h1
    |false=>rw[hi] at h1;simp at h1
   ·exact(hp p h).2 b h1
  exact⟨hsz,hk.os.trans hs.below.os.symm,hk.tape.trans hs.below.tape.symm,hk.output.trans hs.below.output.symm,hdr,hle,λb hb h1=>(key b hb h1).1,λb hb h1=>(key b hb h1).2,BE⟩
 have hh:∀p∈Al,p.2.holds w0 a w' H' (Ab a p.1)/\∀b,p.2.owns w' (Ab a p.1) b↔p.2.owns w (Ab a p.1) b:=λp h=>AN.VT (hs.holds p (hp p h).1) (λhi=>by rw[hi];rfl)<|LL p h
 refine⟨hm,hs.sz,hk,λhv r hr hx=>(hold hv r hr hx).trans<|hs.GK hv r hr hx,BE,?_,?_,hs.gl.mono hle⟩
 ·exact λp h=>AN.P5 (a:=a) (λ_ _=>rfl) (hh p h).1
 ·exact λp h q h' hne b hb BD=>hs.sep p (hp p h).1 q (hp q h').1 hne b (((hh p h).2 b).1 hb)<|((hh q h').2 b).1 BD
theorem Vf{sz:Nat}(h:KQ B w H E sz l v)(hm:∀b,v.ownBlock=some b->B'.EI b):KQ B' w H E sz l v:=by grind [KQ,Ae.EI]
def yU{B B':Ae P}{w:AQ}{H:HV}{Eb:Ah}{sz:Nat}:∀{i:Nat} {l:A3 (Ty×Cv)} {es:A3 MapEntry},K9 B w H Eb sz i l es->(∀b,Ht b l es->B'.EI b)->K9 B' w H Eb sz i l es
 |_,[],[],_,_=>trivial
 |_,[],_::_,h,_=>h.elim
 |_,(_,_)::_,[],h,_=>h.elim
 |i,(k,e)::l,x::xs,⟨hk,he,hb,hr⟩,hx=>by
  refine⟨hk,?_,hb,yU hr λb h=>hx b<| .inr h⟩;cases e with
  |val τ=>exact he
  |any=>trivial
  |buf l=>exact Vf he λb h=>hx b<| .inl h
def yZ{sz:Nat}{E1:A3 (Ty×Cv)}(h:Qj B w H Eb sz E1 v)(hm:∀b,PE w E1 v b->B'.EI b):Qj B' w H Eb sz E1 v:=by
 obtain⟨r,es,e,hr,hn,_,ho,hs⟩:=h;subst e;exact⟨r,es,rfl,hr,hn,hm r<| .inl rfl,yU ho λb h=>hm b<| .inr ⟨r,es,rfl,hr,h⟩,hs⟩
def yS{B B':Ae P}{a:Act}{w:AQ}{H:HV}:∀{ps:A3 Bt} {cs:A3 AR},IV B a w H ps cs->(∀b,Fv w b ps cs->B'.EI b)->IV B' a w H ps cs
 |[],_,h,_=>h
 |p::l,_,⟨v,rest,e,C6,hv,hr⟩,k=>by
  subst e;obtain⟨e1,e2⟩:=N8 (rest:=rest) C6;simp only[Fv,e1,e2] at k;refine⟨v,rest,rfl,C6,?_,yS hr λb h=>k b<| .inr h⟩;cases p with
  |val _=>exact hv
  |any _ _=>exact hv
  |sm _=>exact hv
  |buf _ _ _=>exact Vf hv λb h=>k b<| .inl h
  |map _ _ _ _ _=>exact yZ hv λb h=>k b<| .inl h
def AN.RU{B B':Ae P}{a:Act}{w:AQ}{H:HV}{v:AR}:∀{s:AN},s.F2=false->s.holds B a w H v->(∀b,s.owns w v b->B'.EI b)->s.holds B' a w H v
 | .val _,_,h,_=>h
 | .LF _,_,h,_=>h
 | .own _ _,_,⟨b,x,e,h1,h2,h3,_⟩,k=>⟨b,x,e,h1,h2,h3,k b ⟨_,e,rfl⟩⟩
 | .ptr _ _,_,h,_=>h
 | .opt c s,hi,h,k=>⟨λhc=>AN.RU (s:=s) hi (h.1 hc) λb hb=>k b ⟨hc,hb⟩,h.2⟩
 | .same _,_,h,_=>h
 | .Jy _ _ _,_,h,_=>h
 | .bpf _ _,_,h,_=>h
 | .gone,_,h,_=>h
 | .buf _ _ _,_,h,k=>Vf h k
 | .Nk _ _ _ _,_,h,k=>Vf h k
 | .Cx _ _ _,_,⟨c,cs,e,hb,hn,_,ho,hs,hx⟩,k=>⟨c,cs,e,hb,hn,k c ⟨c,e,.inl rfl⟩,yS ho λb h=>k b ⟨c,e,.inr ⟨cs,hb,h⟩⟩,hs,hx⟩
 | .Gn _ _ _ _ _,_,h,k=>yZ h k
 | .Qt _ _ _ _,_,⟨x,e,h⟩,k=>⟨x,e,Vf h λb hb=>k b ⟨x,_,e,hb⟩⟩
 | .inv _,hi,_,_=>by cases hi
 | .K8 _ _,_,h,_=>h
 | .vec _ _,_,h,_=>h
 | .SV _ _,_,h,_=>h
 | .Dw l _,_,⟨h1,h2,_⟩,k=>⟨h1,h2,k l rfl⟩
 | .JC _ _,_,⟨r,m,es,sn,e,h1,h2,_,h4⟩,k=>⟨r,m,es,sn,e,h1,h2,k r ⟨_,e,rfl⟩,h4⟩
 | .win _ _ _ _,_,h,_=>h
 | .Mv _ _ _,_,h,_=>h
 | .F3 _ _ _ _,_,⟨g,c,cur,xs,e,hb,hc,ho,hn,_⟩,k=>⟨g,c,cur,xs,e,hb,hc,ho,hn,k g (by rw[e];rfl)⟩
 | .I5 _ _ _,_,⟨c,p,r,e,hb,hp,hn,_,ho,hx⟩,k=>⟨c,p,r,e,hb,hp,hn,k c ⟨c,e,.inl rfl⟩,Vf ho λb h=>k b ⟨c,e,.inr ⟨p,r,hb,h⟩⟩,hx⟩
def AN.P7{B:Ae P}{a:Act}{w:AQ}{H:HV}{v:AR}{b:Nat}:∀{s:AN},s.F2=false->s.holds B a w H v->s.owns w v b->B.EI b
 | .val _,_,_,h=>h.elim
 | .LF _,_,_,h=>h.elim
 | .ptr _ _,_,_,h=>h.elim
 | .same _,_,_,h=>h.elim
 | .Jy _ _ _,_,_,h=>h.elim
 | .bpf _ _,_,_,h=>h.elim
 | .gone,_,_,h=>h.elim
 | .K8 _ _,_,_,h=>h.elim
 | .vec _ _,_,_,h=>h.elim
 | .SV _ _,_,_,h=>h.elim
 | .own T τ,_,⟨c,x,e,hb,hx,hn,hB⟩,⟨ad,e',h⟩=>by
  subst e;cases e';cases h;exact hB
 | .buf _ _ _,_,h,k=>(I8 h k).2.1
 | .Nk _ _ _ _,_,h,k=>(I8 h k).2.1
 | .Cx T _ ps,_,⟨c,cs,e,hb,hn,hB,ho,hs,hx⟩,⟨c',e',h⟩=>by
  subst e;cases e';rcases h with h|⟨E2,BD,h⟩
  ·subst h;exact hB
  ·rw[hb] at BD;cases BD;exact(Q4 ho h).2.1
 | .Gn _ _ _ _ _,_,h,k=>(Rq h k).2.1
 | .Qt _ _ _ _,_,⟨x,e,h⟩,⟨x',i',e',k⟩=>by
  rw[e] at e';cases e';exact(I8 h k).2.1
 | .opt c s,hi,h,⟨hc,k⟩=>AN.P7 (s:=s) hi (h.1 hc) k
 | .inv _,hi,_,_=>by cases hi
 | .Dw l _,_,⟨_,_,h3⟩,k=>by
  have k:b=l:=k;subst k;exact h3
 | .JC _ _,_,⟨r,m,es,sn,e,_,_,h3,_⟩,⟨ad,e',h⟩=>by
  subst e;cases e';cases h;exact h3
 | .win _ _ _ _,_,_,h=>h.elim
 | .Mv _ _ _,_,_,h=>h.elim
 | .F3 _ _ _ _,_,⟨g,c,cur,xs,e,hb,_,_,hn,hB⟩,h=>by
  subst e;cases h;exact hB
 | .I5 _ _ _,_,⟨c,p,r,e,hb,_,_,hB,ho,_⟩,⟨c',e',h⟩=>by
  subst e;cases e';rcases h with h|⟨p',r',BD,h⟩
  ·subst h;exact hB
  ·have e2:=hb.symm.trans BD;simp at e2;obtain⟨rfl,rfl⟩:=e2;exact(I8 ho h).2.1
end
section
variable[D:DR]
variable{d:Nat}
def look:Ctx->Nat->A9 AN
 |[],_=>none
 |(k,s)::Γ,t=>match Nat.beq k t with
  |true=>some s
  |false=>look Γ t
def B5:∀{Γ:Ctx} {t:Nat} {s:AN},look Γ t=some s->(t,s)∈Γ
 |[],_,_,h=>by simp[look] at h
 |(k,s')::Γ,t,s,h=>by
  simp only[look] at h;cases hb:Nat.beq k t
  ·rw[hb] at h;exact Bq _<|B5 h
  ·rw[hb] at h;have:=EG hb;simp at h;subst this;subst h;simp
def AN.L3(s:AN)(d:Nat):Bool:=s.By.any λt=>Nat.beq t d
def YR{s:AN}(h:s.L3 d=false):d∉s.By:=λhm=>by
 have:=gW.1 h d hm;simp at this
theorem ah9{s:AN}(h:d∉s.By):s.L3 d=false:=by(simp_all [AN.By,AN.L3]<;>grind)
def del(d:Nat):Ctx->Ctx
 |[]=>[]
 |p::Γ=>bif Nat.beq p.1 d||p.2.L3 d then del d Γ else p::del d Γ
def MC{d:Nat}:∀{Γ:Ctx},∀p∈del d Γ,p∈Γ
 |[],p,h=>by simp[del] at h
 |q::Γ,p,h=>by
  simp only[del] at h;cases hb:(Nat.beq q.1 d||q.2.L3 d)
  ·rw[hb] at h;rcases Ai.1 h with e|h
   ·simp[e]
   ·exact Bq _<|MC p h
  ·rw[hb] at h;exact Bq _<|MC p h
def PA{d:Nat}:∀{Γ:Ctx},JT d (del d Γ)=true
 |[]=>rfl
 |q::Γ=>by
  simp only[del];cases hb:(Nat.beq q.1 d||q.2.L3 d)
  ·simp only[B8];have ih:=PA (d:=d) (Γ:=Γ);simp only[JT,OI,Bx] at ih⊢;refine⟨?_,ih⟩;simp at hb;refine⟨by simpa using Nat.ne_of_beq_eq_false hb.1,?_⟩;simpa using YR hb.2
  ·simpa using PA (d:=d) (Γ:=Γ)
inductive E7(Γ:Ctx):A3 Nat->Ctx->Prop where
 |nil:E7 Γ [] []
 |cons {t:Nat} {s:AN} {ts:A3 Nat} {Al:Ctx} (h:look Γ t=some s) (r:E7 Γ ts Al):E7 Γ (t::ts) ((t,s)::Al)
def E7.sub{Γ:Ctx}{ts:A3 Nat}{Al:Ctx}(h:E7 Γ ts Al):∀p∈Al,p∈Γ:=by
 induction h with
 |nil=>simp
 |cons h _ ih=>
  intro p hp;rcases Ai.1 hp with e|hp
  ·subst e;exact B5 h
  ·exact ih p hp
def E7.keys{Γ:Ctx}{ts:A3 Nat}{Al:Ctx}(h:E7 Γ ts Al):∀p∈Al,p.1∈ts:=by
 induction h with
 |nil=>simp
 |cons h _ ih=>
  intro p hp;rcases Ai.1 hp with e|hp
  ·subst e;simp
  ·exact Bq _<|ih p hp
def B1(P:C7)(Γ:Ctx)(o:Oper)(s:AN):Prop:=
 ∀(w0:Ae P) (H0:HV) (N:Nat) (a:Act) (w:AQ) (H:HV),Sat w0 H0 N Γ a w H->∀(K:Act->AQ->Prop) (Q:Exit->Act->AQ->Prop),
  (∀v w' H',Ext w H w' H'->s.holds w0 a w' H' v->(∀b,s.owns w' v b->w.heap.size<=b)->K (a.put o.dst v) w')->o.wp P a w K Q
def Step(P:C7)(N:Nat)(ops:B6 Oper)(o:Oper)(Γ Al:Ctx):Prop:=
 ∀(w0:Ae P) (H0:HV) (a:Act) (w:AQ) (H:HV),Sat w0 H0 N Γ a w H->∀(K:Act->AQ->Prop) (Q:Exit->Act->AQ->Prop),
  (∀a' w' H',Sat w0 H0 N Al a' w' H'->K a' w')->if Region.wanted o (yielded ops a.tmps) then o.wp P a w K Q else K (a.put o.dst undef) w
end
section
variable[D:DR]
variable{P:Program}{N:Nat}{ops:Array Oper}{Γ Al Ew TO:Ctx}
variable{d:Nat}{s:AN}{j dj:Nat}{b:Bool}{H0:HV}{a:Act}{H:HV}{e want:Bool}
def Step.pure{o:Oper}(h:B1 P Γ o s)(hg:o.guard=none)(hd:o.dst=some d)(hN:d<N)(hf:JT d Γ=true)(hl:s.L3 d=false):
  Step P N ops o Γ ((d,s)::Γ):=by
 intro w0 H0 a w H hs K Q k;simp only[Region.wanted,hg,if_true];refine h w0 H0 N a w H hs K Q λv w' H' he hv hb=>?_
 rw[hd];exact k _ _ _<|Rk hs he hN hf (YR hl) hv hb
def Step.over{o:Oper}(h:B1 P Γ o s)(hg:o.guard=none)(hd:o.dst=some d)(hN:d<N)(hl:s.L3 d=false):
  Step P N ops o Γ ((d,s)::del d Γ):=by
 intro w0 H0 a w H hs K Q k;simp only[Region.wanted,hg,if_true];refine h w0 H0 N a w H hs K Q λv w' H' he hv hb=>?_
 rw[hd];exact k _ _ _<|Rk (hs.weaken MC) he hN PA (YR hl) hv hb
def gd(b:Bool):Bool->Bool
 |true=>b
 |false=> !b
def agk{w0:Ae P}{w:AQ}(hs:Sat w0 H0 N Γ a w H)(hj:(ops[j]?).bind (·.dst)=some dj)(hl:look Γ dj=some (.val<|Ay b))(hN:dj<N):
  yielded ops a.tmps j=some b:=by
 have h:=hs.holds _<|B5 hl
 have h:Ab a dj= .bool b:=h;have hlt:dj<a.tmps.size:=hs.sz▸hN;simp only[yielded,hj,Option.bind_some];simp[Ab,hlt] at h;simp[hlt,h]
def ahk{o:Oper}{w0:Ae P}{w:AQ}(hs:Sat w0 H0 N Γ a w H)(hg:o.guard=some (j,want))(hj:(ops[j]?).bind (·.dst)=some dj)(hl:look Γ dj=some (.val<|Ay b))(hN:dj<N):
  Region.wanted o (yielded ops a.tmps)=gd b want:=by
 simp only[Region.wanted,hg,agk hs hj hl hN];cases b<;>cases want<;>rfl
inductive JY(Γ:Ctx)(e:Bool):Ctx->Prop where
 |nil:JY Γ e []
 |v {t:Nat} {s:AN} {Al:Ctx} (h:look Γ t=some s) (r:JY Γ e Al):JY Γ e ((t,s)::Al)
 |o {t:Nat} {s:AN} {c:Bool} {Al:Ctx} (h:look Γ t=some (.opt c s)) (k:e=true->c=true) (r:JY Γ e Al):JY Γ e ((t,s)::Al)
def JY.mem{Γ Al:Ctx}(h:JY Γ e Al)(he:e=true):∀p∈Al,p∈Γ\/(p.1,AN.opt true p.2)∈Γ:=by
 induction h with
 |nil=>simp
 |v h _ ih=>
  intro p hp;rcases Ai.1 hp with e|hp
  ·subst e;exact .inl<|B5 h
  ·exact ih p hp
 |o h k _ ih=>
  intro p hp;rcases Ai.1 hp with e|hp
  ·subst e;have:=k he;subst this;exact .inr<|B5 h
  ·exact ih p hp
def JY.sat{Γ Al:Ctx}(h:JY Γ e Al)(he:e=true){w0:Ae P}{N:Nat}{w:AQ}(hs:Sat w0 H0 N Γ a w H):Sat w0 H0 N Al a w H:=by
 have key:∀p∈Al,∃s,(p.1,s)∈Γ/\(s.holds w0 a w H (Ab a p.1)->p.2.holds w0 a w H (Ab a p.1))/\∀v b,p.2.owns w v b->s.owns w v b:=by
  intro p hp;rcases h.mem he p hp with h|h
  ·exact⟨p.2,h,id,λ_ _ h=>h⟩
  ·exact⟨_,h,λk=>k.1 rfl,λv b hb=>⟨rfl,hb⟩⟩
 refine⟨hs.nd,hs.sz,hs.below,hs.GK,hs.sub,?_,?_,hs.gl⟩
 ·intro p hp;obtain⟨s,h1,h2,_⟩:=key p hp;exact h2<|hs.holds _ h1
 ·intro p hp q hq hne b hb BD;obtain⟨s,h1,_,h3⟩:=key p hp;obtain⟨s',h1',_,h3'⟩:=key q hq;exact hs.sep _ h1 _ h1' hne b (h3 _ _ hb)<|h3' _ _ BD
def opO{Ag:Ctx}{o:Oper}(ho:JY Γ e Ag)(h:e=true->B1 P Ag o s):e=true->B1 P Γ o s:=
 λhe w0 H0 N a w H hs K Q k=>h he w0 H0 N a w H (ho.sat he hs) K Q λv w' H' hx hv hb=>k v w' H' hx hv hb
structure XH(ops:B6 Oper)(N:Nat)(Γ:Ctx)(o:Oper)(e:Bool):Prop where
 w:∀{P':C7} (w0:Ae P') (H0:HV) (a:Act) (w:AQ) (H:HV),Sat w0 H0 N Γ a w H->Region.wanted o (yielded ops a.tmps)=e
def XH.v{o:Oper}(hg:o.guard=some (j,want))(hj:(ops[j]?).bind (·.dst)=some dj)(hl:look Γ dj=some (.val<|Ay b))(hN:dj<N):XH ops N Γ o (gd b want):=
 ⟨λ_ _ _ _ _ hs=>ahk hs hg hj hl hN⟩
def XH.o{o:Oper}{j dj:Nat}{b c want:Bool}(hg:o.guard=some (j,want))(hj:(ops[j]?).bind (·.dst)=some dj)(hl:look Γ dj=some (.opt c<| .val<|Ay b))(hN:dj<N):XH ops N Γ o (c&&gd b want):=
 ⟨λ_ _ a _ _ hs=>by
  have h:=hs.holds _<|B5 hl
  have hlt:dj<a.tmps.size:=hs.sz▸hN;cases c
  ·have e:Ab a dj=undef:=h.2 rfl;simp[Ab,hlt] at e;have:yielded ops a.tmps j=none:=by simp[yielded,hj,hlt,e,undef]
   simp[Region.wanted,hg,this]
  ·have e:Ab a dj= .bool b:=h.1 rfl;simp[Ab,hlt] at e;have:yielded ops a.tmps j=some b:=by simp[yielded,hj,hlt,e]
   simp only[Region.wanted,hg,this,KL];cases b<;>cases want<;>rfl⟩
def Step.guarded{o:Oper}(hgd:XH ops N Γ o e)
 (h:e=true->B1 P Γ o s)(hd:o.dst=some d)(hN:d<N)(hf:JT d Γ=true)(hl:s.L3 d=false):Step P N ops o Γ ((d,.opt e s)::Γ):=by
 intro w0 H0 a w H hs K Q k;rw[hgd.w w0 H0 a w H hs];have hl':d∉(AN.opt e s).By:=YR (s:=s) hl;cases hb:e
 ·simp only[Tw,if_false];rw[hd];subst hb;exact k _ _ _ (Rk hs (Ext.refl hs.sub) hN hf hl' ⟨(λe=>by cases e),λ_=>rfl⟩ (λc e=>by cases e.1))
 ·simp only[if_true];subst hb;refine h rfl w0 H0 N a w H hs K Q λv w' H' he hv hfr=>?_
  rw[hd];exact k _ _ _ (Rk hs he hN hf hl' ⟨(λ_=>hv),(λe=>by cases e)⟩<|λc e=>hfr c e.2)
def S5(o:Oper):A3 Edge:=o.after.toList.filter<|Region.binds .any
def Nf(ops:B6 Oper)(av:A3 (A3 Nat)):Bool:=
 (List.range ops.size).all λi=>match ops[i]? with
  |none=>false
  |some o=>((S5 o).all λe=>decide<|e.on<i)&&
   (av.getD i []).all λj=>(S5 o).any λe=>e.on==j||(av.getD e.on []).contains j
def QS(ops:B6 Oper)(k:Nat)(av:A3 (A3 Nat)):Bool:=
 decide (k<=ops.size)&&(List.range ops.size).all λi=>decide (i<k)||(List.range i).all λj=>(av.getD i []).contains j
def meets(x:A3 (Nat×A3 Nat))(l:A3 Nat):Bool:=x.any λp=>l.contains p.1
def Sj(k:Nat)(kl:A3 (A3<|Nat×A3 Nat))(Df:A3 (A3 Nat))(De:A3 Bool)(L:A3 Nat)(av:A3 (A3 Nat)):Bool:=
 ((List.range k).all λj=>(List.range j).all λi=>
  (!(meets (kl.getD i []) (Df.getD j [])||meets (kl.getD i []) ((kl.getD j []).map (·.1))||meets (kl.getD j []) (Df.getD i [])))||(av.getD j []).contains i)&&
 ((List.range k).all λj=> !(De.getD j true)||(!(meets ((kl.getD j []).take 1) L)&&(List.range k).all λi=>(kl.getD i []).all λp=>p.2.all λt=>
  !(meets ((kl.getD j []).take 1) [t])||(i !=j&&(meets (kl.getD j []) [p.1]||(av.getD i []).contains j||(av.getD j []).any λm=>decide (i<m)&&meets (kl.getD m []) [p.1]))||(i==j&& !(meets ((kl.getD j []).take 1) [p.1]))))
def ON:Ctx->A3 Nat
 |[]=>[]
 |p::Γ=>p.2.By++ON Γ
def vi:∀{Γ:Ctx} {q:Nat×AN} {t:Nat},q∈Γ->t∈q.2.By->t∈ON Γ
 |p::Γ,q,t,h,e=>by
  rcases Ai.1 h with h|h
  ·subst h;simp[ON,e]
  ·have:=vi h e;simp[ON,this]
def BF(d:Nat):Ctx->Ctx
 |[]=>[]
 |p::Γ=>bif Nat.beq p.1 d then BF d Γ else p::BF d Γ
def DI{d:Nat}:∀{Γ:Ctx},∀p∈BF d Γ,p∈Γ/\p.1≠d
 |[],p,h=>by simp[BF] at h
 |q::Γ,p,h=>by
  simp only[BF] at h;cases hb:Nat.beq q.1 d
  ·rw[hb] at h;rcases Ai.1 h with e|h
   ·subst e;exact⟨by simp,Nat.ne_of_beq_eq_false hb⟩
   ·exact⟨Bq _ (DI p h).1,(DI p h).2⟩
  ·rw[hb] at h;exact⟨Bq _ (DI p h).1,(DI p h).2⟩
def O9{d:Nat}:∀{Γ:Ctx} {p:Nat×AN},p∈Γ->p.1≠d->p∈BF d Γ
 |q::Γ,p,h,hn=>by
  simp only[BF];rcases Ai.1 h with e|h
  ·subst e;cases hb:Nat.beq p.1 d
   ·simp
   ·exact absurd (EG hb) hn
  ·have:=O9 h hn;cases Nat.beq q.1 d
   ·exact Bq _ this
   ·exact this
def Pl(P:C7)(N:Nat)(ops:B6 Oper)(Ag:Ctx)(o:Oper)(t:Nat)(s:AN):Prop:=
 ∀Ds:Ctx,(∀q∈Ag,q∈Ds)->Step P N ops o Ds ((t,s)::BF t Ds)
def jj(ks:A3 Nat)(Γ:Ctx):Ctx:=Γ.filter λq=> !ks.contains q.1
def Vj{ks:A3 Nat}{Γ:Ctx}{q:Nat×AN}:q∈jj ks Γ↔q∈Γ/\q.1∉ks:=by simp[jj]
def Pn(P:C7)(N:Nat)(ops:B6 Oper)(Ag:Ctx)(o:Oper)(t d:Nat)(s:AN):Prop:=
 ∀Ds:Ctx,(∀q∈Ag,q∈Ds)->Step P N ops o Ds ((d,s)::del d (BF t Ds))
def jk(P:C7)(N:Nat)(ops:B6 Oper)(Ag:Ctx)(o:Oper)(t:Nat)(s':AN)(d:Nat)(s:AN):Prop:=
 ∀Ds:Ctx,(∀q∈Ag,q∈Ds)->Step P N ops o Ds ((d,s)::(t,s')::del d (BF t Ds))
def auq(P:C7)(N:Nat)(ops:B6 Oper)(Ag:Ctx)(o:Oper)(t:Nat)(s':AN)(d:Nat)(s:AN)(u:Nat)(su:AN):Prop:=
 ∀Ds:Ctx,(∀q∈Ag,q∈Ds)->Step P N ops o Ds ((d,s)::(t,s')::(u,su)::del d (BF t Ds))
def acg(P:C7)(N:Nat)(ops:B6 Oper)(put:Bool)(c Ag:Ctx)(o:Oper):Prop:=∀Ds:Ctx,(∀q∈Ag,q∈Ds)->(put=true->∀q∈Ds,q.1∉c.map (·.1)->∀p∈c.take 1,p.1∉q.2.By)->(put=true->∀q∈c.take 1,∀p∈c.take 1,p.1∉q.2.By)->∃Al:Ctx,Step P N ops o Ds Al/\∀q,q∈c++jj (c.map (·.1)) Ds->q∈Al
inductive Ec(P:C7)(N:Nat)(ops:B6 Oper)(Γ:Ctx):A3 Ctx->A3 Oper->A3 (A3 Nat)->A3 Bool->A3 Ctx->Prop where
 |nil {acc:A3 Ctx}:Ec P N ops Γ acc [] [] [] acc
 |gen {acc S:A3 Ctx} {Ag c:Ctx} {o:Oper} {l:A3 Oper} {ts:A3 Nat} {Df:A3 (A3 Nat)} {put:Bool} {De:A3 Bool}
   (hs:E7 (acc.flatten++Γ) ts Ag) (h:acg P N ops put c Ag o) (r:Ec P N ops Γ (c::acc) l Df De S):Ec P N ops Γ acc (o::l) (ts::Df) (put::De) S
def agT{A B:Ctx}{t:Nat}(h:look (A++B) t=some s):look A t=some s\/((∀q∈A,q.1≠t)/\look B t=some s):=by
 induction A with
 |nil=>exact .inr ⟨(λq hq=>by cases hq),h⟩
 |cons p A ih=>
  obtain⟨k,s'⟩:=p;simp only[QL,look] at h⊢;cases hb:Nat.beq k t
  ·rw[hb] at h;rcases ih h with h|⟨h1,h2⟩
   ·exact .inl h
   ·refine .inr ⟨λq hq=>?_,h2⟩;rcases Ai.1 hq with e|hq
    ·subst e;exact Nat.ne_of_beq_eq_false hb
    ·exact h1 q hq
  ·rw[hb] at h;exact .inl h
def At(Γ:Ctx)(S:A3 Ctx)(i:Nat)(q:Nat×AN):Prop:=
 (∃j c,j<i/\S[j]? =some c/\q∈c/\∀j' c',j<j'->j'<i->S[j']? =some c'->∀q'∈c',q'.1≠q.1)\/(q∈Γ/\∀j c',j<i->S[j]? =some c'->∀q'∈c',q'.1≠q.1)
def nL{Γ:Ctx}{t:Nat}{s:AN}{S:A3 Ctx}:∀{acc:A3 Ctx},(∀j,j<acc.length->S[j]? =acc.reverse[j]?)->look (acc.flatten++Γ) t=some s->At Γ S acc.length (t,s)
 |[],_,h=> .inr ⟨B5 (by simpa using h),λj c' hj=>by simp at hj⟩
 |c::acc,hS,h=>by
  have rO:S[acc.length]? =some c:=by rw[hS _ (by simp)];simp
  rw[List.flatten_cons,ID] at h;rcases agT h with h|⟨h1,h2⟩
  ·exact .inl ⟨acc.length,c,by simp,rO,B5 h,λj' c' h3 h4=>by simp at h4;omega⟩
  ·have ih:=nL (acc:=acc) (λj hj=>by
    rw[hS j (by simp;omega),List.reverse_cons,MG (by simpa using hj)]) h2
   rcases ih with⟨j,c0,k1,k2,k3,k4⟩|⟨k1,k2⟩
   ·refine .inl ⟨j,c0,by simp;omega,k2,k3,λj' c' h3 h4 h5=>?_⟩;simp at h4;by_cases e:j'=acc.length
    ·subst e;rw[rO] at h5;cases h5;exact h1
    ·exact k4 j' c' h3 (by omega) h5
   ·refine .inr ⟨k1,λj' c' h4 h5=>?_⟩;simp at h4;by_cases e:j'=acc.length
    ·subst e;rw[rO] at h5;cases h5;exact h1
    ·exact k2 j' c' (by omega) h5
structure abL(P:C7)(N:Nat)(ops:B6 Oper)(Γ:Ctx)(ts:A3 Nat)(put:Bool)(S:A3 Ctx)(i:Nat)(o:Oper)(c:Ctx):Prop where
 exec:∃Ag:Ctx,acg P N ops put c Ag o/\∀q∈Ag,q.1∈ts/\At Γ S i q
def E7.looks{Γ:Ctx}{ts:A3 Nat}{Al:Ctx}(h:E7 Γ ts Al):∀p∈Al,look Γ p.1=some p.2:=by
 induction h with
 |nil=>simp
 |cons h _ ih=>
  intro p hp;rcases Ai.1 hp with e|hp
  ·subst e;exact h
  ·exact ih p hp
def yO{Ds:Ctx}(h:∀q∈Ds,q.1≠d->d∉q.2.By):JT d (BF d Ds)=true:=by
 simp only[JT,DZ,Bx,M8,ne_eq];exact λq hq=>⟨(DI q hq).2,by simpa using h q (DI q hq).1 (DI q hq).2⟩
def Sat.ang{P:C7}{w0:Ae P}{w:AQ}(hs:Sat w0 H0 N Γ a w H)(t:Nat):Sat w0 H0 N ((t,.gone)::Γ) a w H:=by
 refine⟨hs.nd,hs.sz,hs.below,hs.GK,hs.sub,?_,?_,hs.gl⟩
 ·intro p hp;rcases Ai.1 hp with e|hp
  ·subst e;trivial
  ·exact hs.holds p hp
 ·intro p hp q hq hne b hb BD;rcases Ai.1 hp with e|hp
  ·subst e;exact hb.elim
  ·rcases Ai.1 hq with e|hq
   ·subst e;exact BD.elim
   ·exact hs.sep p hp q hq hne b hb BD
def Step.gone{o:Oper}(h:Step P N ops o Γ Al)(t:Nat):Step P N ops o Γ ((t,.gone)::Al):=
 λw0 H0 a w H hs K Q k=>h w0 H0 a w H hs K Q λa' w' H' Co=>k a' w' H'<|Co.ang t
def Step.abn{o:Oper}(h:Step P N ops o Γ Al):∀gs:A3 Nat,Step P N ops o Γ ((gs.map λu=>(u,AN.gone))++Al)
 |[]=>h
 |u::gs=>(Step.abn h gs).gone u
def pn{Ds:Ctx}{p q:Nat×AN}(h:q∈[p]++jj ([p].map (·.1)) Ds):q∈p::BF p.1 Ds:=by
 rcases Cp.1 h with h|h
 ·rw[DV.1 h];simp
 ·obtain⟨h1,h2⟩:=Vj.1 h;exact Bq _ (O9 h1 (by simpa using h2))
def QD{d:Nat}:∀{Γ:Ctx} {p:Nat×AN},p∈Γ->p.1≠d->d∉p.2.By->p∈del d Γ
 |q::Γ,p,h,hn,hl=>by
  simp only[del];have hq:(Nat.beq p.1 d||p.2.L3 d)=false:=by
   rw[Jr];exact⟨by cases hb:Nat.beq p.1 d;rfl;exact absurd (EG hb) hn,ah9 hl⟩
  rcases Ai.1 h with e|h
  ·subst e;rw[hq];simp
  ·have:=QD h hn hl;cases(Nat.beq q.1 d||q.2.L3 d)
   ·exact Bq _ this
   ·exact this
def Ec.at_{acc:A3 Ctx}{l:A3 Oper}{Df:A3 (A3 Nat)}{De:A3 Bool}{S:A3 Ctx}(h:Ec P N ops Γ acc l Df De S):
  (∃S',S=S'++acc/\S'.length=l.length)/\Df.length=l.length/\De.length=l.length/\∀(i:Nat) (o:Oper) (ts:A3 Nat) (put:Bool),l[i]? =some o->Df[i]? =some ts->De[i]? =some put->
   ∃p,S.reverse[acc.length+i]? =some p/\abL P N ops Γ ts put S.reverse (acc.length+i) o p:=by
 have step:∀{acc:A3 Ctx} {c:Ctx} {l:A3 Oper} {S:A3 Ctx},(∃S',S=S'++c::acc/\S'.length=l.length)->
   (∃S',S=S'++acc/\S'.length=l.length+1)/\S.reverse[acc.length]? =some c/\∀j,j<acc.length->S.reverse[j]? =acc.reverse[j]? :=by
  rintro acc c l S ⟨S',rfl,hl⟩;refine⟨⟨S'++[c],by simp,by simp[hl]⟩,by simp,λj hj=>?_⟩;simp only[List.reverse_append,List.reverse_cons,ID];rw[MG (by simpa using hj)]
 induction h with
 |nil=>exact⟨⟨[],by simp⟩,rfl,rfl,λi o _ _ h=>by simp at h⟩
 | @gen acc S Ag c o l ts Df put De hs h r ih=>
  obtain⟨h1,h2,h3,h4⟩:=ih;obtain⟨k1,k2,k3⟩:=step h1;refine⟨by simpa using k1,by simp[h2],by simp[h3],?_⟩;intro i o' ts' arw hi hn hp;cases i with
  |zero=>
   simp at hi hn hp;subst hi;subst hn;subst hp;exact⟨c,by simpa using k2,⟨Ag,h,λq hq=>⟨hs.keys q hq,by simpa using nL k3 (hs.looks q hq)⟩⟩⟩
  |succ i=>
   simp at hi hn hp;obtain⟨p,hp1,hp2⟩:=h4 i o' ts' arw hi hn hp;have e:acc.length+(i+1)=(c::acc).length+i:=by simp;omega
   rw[e];exact⟨p,hp1,hp2⟩
end
section
variable[D:DR]
variable{P:Program}{N:Nat}{ops:Array Oper}{Γ Al Ew TO:Ctx}
variable{acc S:List Ctx}{Γ Ag:Ctx}{o:Oper}{l:List Oper}{ts:List Nat}{Df:List (List Nat)}{De:List Bool}{t d u:Nat}{s s' su:AN}{e:Bool}(gs:List Nat)(hs:E7 (acc.flatten++Γ) ts Ag)
include hs
def Ec.cons(h:B1 P Ag o s)(hg:o.guard=none)(hd:o.dst=some d)(hN:d<N)(r:Ec P N ops Γ ([(d,s)]::acc) l Df De S):Ec P N ops Γ acc (o::l) (ts::Df) (true::De) S:=by
 refine .gen hs (λDs BE JD aH=>?_) r;refine⟨(d,s)::BF d Ds,?_,λq hq=>pn hq⟩;intro w0 H0 a w H BA K Q kk;simp only[Region.wanted,hg,if_true];refine h w0 H0 N a w H (BA.weaken BE) K Q λv w' H' he hv hb=>?_
 rw[hd];exact kk _ _ _ (Rk (BA.weaken λq hq=>(DI q hq).1) he hN (yO λq hq hn=>JD rfl q hq (by simpa using hn) (d,s) (by simp)) (aH rfl (d,s) (by simp) (d,s) (by simp)) hv hb)
def Ec.guarded(hgd:XH ops N Ag o e)(h:e=true->B1 P Ag o s)(hd:o.dst=some d)(hN:d<N)(r:Ec P N ops Γ ([(d,.opt e s)]::acc) l Df De S):Ec P N ops Γ acc (o::l) (ts::Df) (true::De) S:=by
 refine .gen hs (λDs BE JD aH=>?_) r;refine⟨(d,.opt e s)::BF d Ds,?_,λq hq=>pn hq⟩;intro w0 H0 a w H BA K Q kk;rw[hgd.w w0 H0 a w H<|BA.weaken BE];have abd:=BA.weaken (Al:=BF d Ds) λq hq=>(DI q hq).1
 have hf':JT d (BF d Ds)=true:=yO λq hq hn=>JD rfl q hq (by simpa using hn) (d,.opt e s) (by simp)
 have Co:d∉(AN.opt e s).By:=aH rfl (d,.opt e s) (by simp) (d,.opt e s) (by simp);cases hb:e
 ·simp only[Tw,if_false];rw[hd];subst hb;exact kk _ _ _ (Rk abd (Ext.refl BA.sub) hN hf' Co ⟨(λe=>by cases e),λ_=>rfl⟩ (λc e=>by cases e.1))
 ·simp only[if_true];subst hb;refine h rfl w0 H0 N a w H (BA.weaken BE) K Q λv w' H' he hv hfr=>?_
  rw[hd];exact kk _ _ _ (Rk abd he hN hf' Co ⟨(λ_=>hv),(λe=>by cases e)⟩<|λc e=>hfr c e.2)
def Ec.store(h:Pl P N ops Ag o t s)(r:Ec P N ops Γ ([(t,s)]::acc) l Df De S):Ec P N ops Γ acc (o::l) (ts::Df) (false::De) S:=
 .gen hs (λDs BE _ _=>⟨_,h Ds BE,λq hq=>pn hq⟩) r
def Ec.aug(h:Pn P N ops Ag o t d s)(r:Ec P N ops Γ (((d,s)::(t,.gone)::gs.map λu=>(u,.gone))::acc) l Df De S):Ec P N ops Γ acc (o::l) (ts::Df) (true::De) S:=by
 refine .gen hs (λDs BE JD _=>⟨_,((h Ds BE).abn gs).gone t,λq hq=>?_⟩) r;rcases Cp.1 hq with hq|hq
 ·rcases Ai.1 hq with e|hq
  ·subst e;exact Bq _ (ZR _ (by simp))
  ·rcases Ai.1 hq with e|hq
   ·subst e;simp
   ·exact Bq _<|Mn _ hq
 ·obtain⟨m1,m2⟩:=Vj.1 hq;have m3:=m2;simp only[Mf,Ai,not_or] at m2;refine Bq _<|ZR _<|Bq _<|QD (O9 m1 m2.2.1) m2.1 ?_
  exact JD rfl q m1 m3 (d,s) (by simp)
def Ec.two(h:jk P N ops Ag o t s' d s)(r:Ec P N ops Γ ([(d,s),(t,s')]::acc) l Df De S):Ec P N ops Γ acc (o::l) (ts::Df) (true::De) S:=by
 refine .gen hs (λDs BE JD _=>⟨_,h Ds BE,λq hq=>?_⟩) r;rcases Cp.1 hq with hq|hq
 ·simp only[Ai,S2,or_false] at hq;rcases hq with e|e<;>subst e<;>simp
 ·obtain⟨m1,m2⟩:=Vj.1 hq;have m3:=m2;simp only[Mf,ZA,Ai,S2,or_false,not_or] at m2;exact Bq _ (Bq _ (QD (O9 m1 m2.2) m2.1 (JD rfl q m1 m3 (d,s) (by simp))))
def Ec.three(h:auq P N ops Ag o t s' d s u su)(r:Ec P N ops Γ ([(d,s),(t,s'),(u,su)]::acc) l Df De S):Ec P N ops Γ acc (o::l) (ts::Df) (true::De) S:=by
 refine .gen hs (λDs BE JD _=>⟨_,h Ds BE,λq hq=>?_⟩) r;rcases Cp.1 hq with hq|hq
 ·simp only[Ai,S2,or_false] at hq;rcases hq with e|e|e<;>subst e<;>simp
 ·obtain⟨m1,m2⟩:=Vj.1 hq;have m3:=m2;simp only[Mf,ZA,Ai,S2,or_false,not_or] at m2;exact Bq _ (Bq _ (Bq _ (QD (O9 m1 m2.2.1) m2.1 (JD rfl q m1 m3 (d,s) (by simp)))))
end
section
variable[D:DR]
variable{P:C7}{w:AQ}{o:Oper}{n:Nat}{l:A3 Oper}
def IK{P:C7}(w0:Ae P)(N:Nat)(Γ Ew:Ctx):Prop:=∀(H0:HV) (a:Act) (w:AQ) (H:HV),Sat w0 H0 N Γ a w H->∃H',Sat w0 H0 N Ew a w H'
inductive JE(P:C7)(w0:Ae P)(N:Nat)(ops:B6 Oper):A3 Oper->Ctx->Ctx->Prop where
 |done {Γ:Ctx}:JE P w0 N ops [] Γ Γ
 |fin {Γ Al:Ctx} {ts:A3 Nat} (h:E7 Γ ts Al):JE P w0 N ops [] Γ Al
 |cons {Γ Ew TO:Ctx} {o:Oper} {l:A3 Oper} (h:Step P N ops o Γ Ew) (r:JE P w0 N ops l Ew TO):JE P w0 N ops (o::l) Γ TO
 |ghost {Γ Ew TO:Ctx} {l:A3 Oper} (h:IK w0 N Γ Ew) (r:JE P w0 N ops l Ew TO):JE P w0 N ops l Γ TO
def Fk(rd:A9 Nat):Fence:={fn:=λ_=>True,depth:=none,alive:=false,round:=rd}
def abA{rd:A9 Nat}{f:FuncId}{args:B6 AR}{R:Ending->AQ->Prop}(h:Calls P f args w R):CallsIn (Fk rd) n P f args w R:=
 (callsIn_wide (n:=n)).2 h
def Yy{rd:A9 Nat}{a:Act}{K:Act->AQ->Prop}{Q:Exit->Act->AQ->Prop}(KC:∀c,o.op≠ .defer c)(h:o.wp P a w K Q):o.wpIn (Fk rd) 0 P a w K Q:=by
 refine⟨λ_ _=>trivial,?_⟩;rw[Oper.semAt_eq _ _ _ KC];unfold Oper.wp at h
 generalize (execOp a.eval o).run P w=r at*
 cases r with
 |ok n w'=>
  cases n<;>simp only[Oper.upon] at h<;>first
   |exact h
   |exact h.elim
   |exact⟨(λe=>by cases e),abA h⟩
   |exact⟨(λe=>by cases e),λc cs _=>let⟨v,w2,r1,s⟩:=h c cs;⟨v,w2,r1,stepsIn_wide.2 s⟩⟩
 |halt x w'=>cases x<;>simp only[Oper.upon] at h⊢ <;>exact h
def CallsIn.abU{F:Fence}{f:FuncId}{args:B6 AR}{R R':Ending->AQ->Prop}(h:CallsIn F n P f args w R)(hr:∀e w',R e w'->R' e w'):CallsIn F n P f args w R':=
 ⟨h.1,λcs hc=>let⟨e,w',fr,r,s⟩:=h.2 cs hc;⟨e,w',fr,hr _ _ r,s⟩⟩
def uo{F:Fence}{a:Act}{K K':Act->AQ->Prop}{Q:Exit->Act->AQ->Prop}(h:∀a w,K a w->K' a w)(hh:o.wpIn F n P a w K Q):o.wpIn F n P a w K' Q:=by
 refine⟨hh.1,?_⟩;have hh:=hh.2
 generalize (o.semAt F.round a.eval).run P w=r at*
 cases r with
 |ok n w'=>
  cases n<;>simp only[Oper.uponIn] at hh⊢ <;>
   first
    |exact h _ _ hh
    |exact⟨hh.1,CallsIn.abU hh.2 (λe w'' he=>by cases e<;>first|exact h _ _ he|exact he)⟩
    |exact⟨hh.1,RowsIn.mono hh.2<|λ_ _ he=>h _ _ he⟩
    |exact⟨hh.1,RoundIn.mono hh.2 (λe w'' he=>by cases e<;>first|exact h _ _ he|exact he)⟩
 |halt x w'=>cases x<;>simp only[Oper.uponIn] at hh⊢ <;>exact hh
def JV(l:A3 Oper):Bool:=l.all λo=>match o.op with| .defer _=>false|_=>true
def nA(h:JV l=true)(ho:o∈l):∀c,o.op≠ .defer c:=λc e=>by
 have:=DZ.1 h o ho;simp[e] at this
theorem wI(h:JV (o::l)=true):JV l=true:=by grind [JV]
def JE.sound{w0:Ae P}{N:Nat}{ops:B6 Oper}{Γ Al:Ctx}(h:JE P w0 N ops l Γ Al):JV l=true->∀(H0:HV) (a:Act) (w:AQ) (H:HV),Sat w0 H0 N Γ a w H->∀(Q:Exit->Act->AQ->Prop),
  (∀a' w' H',Sat w0 H0 N Al a' w' H'->Q .normal a' w')->wpListIn (Fk w0.rd) 0 P ops Q l a w:=by
 induction h with
 |done=>exact λ_ _ _ _ H hs _ k=>k _ _ H hs
 |fin h=>exact λ_ _ _ _ H hs _ k=>k _ _ H<|hs.weaken h.sub
 | @cons _ _ _ o l h _ ih=>
  intro As H0 a w H hs Q k;have Ez:=h w0 H0 a w H hs (wpListIn (Fk w0.rd) 0 P ops Q l) Q λa' w' H' Co=>ih (wI As) H0 a' w' H' Co Q k
  unfold wpListIn;split
  ·rename_i hw;rw[if_pos hw] at Ez;exact Yy (nA As (by simp)) Ez
  ·rename_i hw;rw[if_neg hw] at Ez;exact⟨λ_ _=>trivial,Ez⟩
 |ghost h _ ih=>
  intro As H0 a w H hs Q k;obtain⟨H',Co⟩:=h H0 a w H hs;exact ih As H0 a w H' Co Q k
end
section
variable[D:DR]
variable{P:Program}{ops:Array Oper}{Q:Exit->Act->World->Prop}{F:Fence}
def Qe(F:Fence)(P:C7)(ops:B6 Oper)(Q:Exit->Act->AQ->Prop)(i:Nat)(K:Act->AQ->Prop)(a:Act)(w:AQ):Prop:=
 match ops[i]? with
 |none=>K a w
 |some o=>if Region.wanted o (yielded ops a.tmps) then o.wpIn F 0 P a w K Q else(∀f,o.about P w a.eval=some f->F.fn f)/\K (a.put o.dst undef) w
def PR(F:Fence)(P:C7)(ops:B6 Oper)(Q:Exit->Act->AQ->Prop):Nat->B6 Bool->Act->AQ->Prop
 |0,listed,a,w=>Region.ready .any ops listed=[]/\Q .normal a w
 |fuel+1,listed,a,w=>
  (Region.ready .any ops listed=[]->Q .normal a w)/\
  ∀i∈Region.ready .any ops listed,Qe F P ops Q i (PR F P ops Q fuel<|listed.setIfInBounds i true) a w
def ag0(i:Nat)(rest:A3 Nat)(a:Act)(w:AQ):wpOpsIn F 0 P ops Q (i::rest) a w=Qe F P ops Q i (wpOpsIn F 0 P ops Q rest) a w:=by
 cases h:ops[i]? <;>simp[wpOpsIn,Qe,h]
def agl{i:Nat}{a:Act}{w:AQ}{K K':Act->AQ->Prop}(h:∀a w,K a w->K' a w)(hh:Qe F P ops Q i K a w):Qe F P ops Q i K' a w:=by
 unfold Qe at*;split
 ·exact h _ _ (by simpa[*] using hh)
 ·rename_i o ho;simp only[ho] at hh;split
  ·rename_i hw;simp only[hw,if_true] at hh;exact uo h hh
  ·rename_i hw;simp only[hw] at hh;exact⟨hh.1,h _ _ hh.2⟩
def afB:∀(fuel t:Nat) (listed:B6 Bool) (a:Act) (w:AQ),PR F P ops Q fuel listed a w->wpOpsIn F 0 P ops Q (Region.linearise.go .any ops fuel t listed []) a w:=by
 intro fuel
 induction fuel with
 |zero=>intro t listed a w h;simpa[Region.linearise.go,wpOpsIn] using h.2
 |succ fuel ih=>
  intro t listed a w h;obtain⟨h0,h1⟩:=h;simp only[Region.linearise.go];change wpOpsIn F 0 P ops Q (match(Region.ready .any ops listed)[t%(Region.ready .any ops listed).length]? with
   |some i=>Region.linearise.go .any ops fuel (t/(Region.ready .any ops listed).length) (listed.setIfInBounds i true) [i]
   |none=>[].reverse) a w
  cases hi:(Region.ready .any ops listed)[t%(Region.ready .any ops listed).length]? with
  |none=>
   have UX:Region.ready .any ops listed=[]:=by
    cases hr:Region.ready .any ops listed with
    |nil=>rfl
    |cons x xs=>
     rw[hr] at hi;have hlt:t%(x::xs).length<(x::xs).length:=OH _ (by simp);simp at hi;simp at hlt;omega
   simpa[wpOpsIn] using h0 UX
  |some i=>
   simp only[];rw[linearise_go_acc,List.reverse_singleton,zr,ag0];exact agl (λa w=>ih _ _ a w)<|h1 i<|OV hi
def adi{id:Nat}{a:Act}{w:AQ}(hm:P.follows .mixedOrders=true)
  (h:PR F P ops Q ops.size (Array.replicate ops.size false) a {w with drawn:=w.drawn+1}):(Code.region id ops true).wpIn F 0 P Q a w:=
 wpIn_region_draw λt=>by
  simp only[Region.schedule,hm,Vx,if_true];exact afB ops.size t _ a _ h
end
section
variable[D:DR]
variable{P:Program}{N:Nat}{ops:Array Oper}{Γ Al:Ctx}
variable{listed:B6 Bool}{i:Nat}{av:A3 (A3 Nat)}{Q:Exit->Act->AQ->Prop}{k:Nat}{S:A3 Ctx}{a:Act}{w:AQ}{c:Ctx}{Df:A3 (A3 Nat)}{De:A3 Bool}{kl:A3 (A3<|Nat×A3 Nat)}{L:A3 Nat}{G3:Ctx}{ts:A3 Nat}{w0:Ae P}{H0:HV}
def Db(listed:B6 Bool)(i:Nat):Prop:=listed.getD i false=true
def aa1(h:i<listed.size):listed.getD i true=listed.getD i false:=by simp[h]
def VY(hs:listed.size=ops.size):i∈Region.ready .any ops listed↔∃o,ops[i]? =some o/\ ¬Db listed i/\∀e∈S5 o,Db listed e.on:=by
 simp only[Region.ready,HZ,QJ];constructor
 ·rintro⟨hi,h⟩;have hi':i<listed.size:=hs▸hi;rw[aa1 hi'] at h;simp only[Bx,GW] at h;obtain⟨h1,h2⟩:=h;refine⟨ops[i],by simp[hi],by simp[Db];simpa using h1,?_⟩;simp only[hi,getElem?_pos,Rx,ZM] at h2;intro e he;have:=Array.all_eq_true'.1 h2 e (by simpa using(HZ.1 he).1);have hb:=(HZ.1 he).2;simp[hb] at this;simpa[Db] using this
 ·rintro⟨o,ho,hl,he⟩;have hi:i<ops.size:=(S3.1 ho).1;have hi':i<listed.size:=hs▸hi;refine⟨hi,?_⟩;rw[aa1 hi'];simp only[Bx,GW,ho,Rx,ZM];refine⟨by simpa[Db] using hl,?_⟩;rw[Array.all_eq_true'];intro e hm;by_cases hb:Region.binds .any e=true
  ·have:=he e (HZ.2 ⟨by simpa using hm,hb⟩);simp[Db] at this;simp[this]
  ·simp at hb;simp[hb]
def QQ{j:Nat}(hi:i<listed.size):Db (listed.setIfInBounds i true) j↔(j=i\/Db listed j):=by
 simp only[Db,U5];by_cases e:i=j
 ·subst e;simp[hi]
 ·rw[Array.getElem?_setIfInBounds_ne e];constructor
  ·exact λh=> .inr h
  ·rintro(h|h)
   ·exact absurd h.symm e
   ·exact h
def unl(listed:B6 Bool):Nat:=listed.toList.count false
def zK(hi:i<listed.size)(hn: ¬Db listed i):unl (listed.setIfInBounds i true)+1=unl listed:=by
 have hf:listed.toList[i]'(by simpa using hi)=false:=by
  simp[Db,hi] at hn;simpa using hn
 have hpos:0<listed.toList.count false:=List.count_pos_iff.2 (by rw[<-hf];exact L0 _);simp only[unl,iD];rw[List.count_set (by simpa using hi),hf];simp only[beq_self_eq_true,if_true];have:(true==false)=false:=rfl;rw[this];simp only[Tw,if_false];omega
def xz(h:unl listed=0)(hi:i<listed.size):Db listed i:=by
 have:=List.count_eq_zero.1 h;have hm:listed[i]∈listed.toList:=by simp
 simp only[Db,hi,U5,getElem?_pos,ZM];cases hb:listed[i]
 ·rw[hb] at hm;exact absurd hm this
 ·rfl
theorem aa7(Kj:Nf ops av=true){o:Oper}(ho:ops[i]? =some o){e:Edge}(he:e∈S5 o):e.on<i:=by grind [Nf,S5]
def kN{n m:Nat}: ¬Db (Array.replicate n false) m:=by
 simp only[Db,U5,Array.getElem?_replicate];split<;>simp
def wA(Kj:Nf ops av=true)(hs:listed.size=ops.size)(hi:i<ops.size)(hn: ¬Db listed i):Region.ready .any ops listed≠[]:=by
 have key:∀m,∀i,i<=m->i<ops.size-> ¬Db listed i->∃j,j∈Region.ready .any ops listed:=by
  intro m
  induction m with
  |zero=>
   intro i him hi hn;have:i=0:=by omega
   subst this;refine⟨0,(VY hs).2 ⟨ops[0],by simp[hi],hn,?_⟩⟩;intro e he;have:=aa7 Kj (i:=0) (o:=ops[0]) (by simp[hi]) he;omega
  |succ m ih=>
   intro i him hi hn;by_cases hall:∀e∈S5 ops[i],Db listed e.on
   ·exact⟨i,(VY hs).2 ⟨ops[i],by simp[hi],hn,hall⟩⟩
   ·have⟨e,he,hne⟩:∃e,e∈S5 ops[i]/\ ¬Db listed e.on:=by
     apply Cl;intro hc;exact hall λe he=>Cl λh=>hc ⟨e,he,h⟩
    have:=aa7 Kj (i:=i) (o:=ops[i]) (by simp[hi]) he;exact ih e.on (by omega) (by omega) hne
 obtain⟨j,hj⟩:=key i i (BM _) hi hn;intro e;rw[e] at hj;cases hj
def o5(Kj:Nf ops av=true)(hs:listed.size=ops.size)(hc:∀m,Db listed m->∀j∈av.getD m [],Db listed j)(hi:i∈Region.ready .any ops listed):∀j∈av.getD i [],Db listed j:=by
 obtain⟨o,ho,hn,he⟩:=(VY hs).1 hi;have hlt:=(S3.1 ho).1;have:=DZ.1 Kj i (by simp[hlt]);simp only[ho,Bx,DZ,gU] at this;intro j hj;obtain⟨e,he',hx⟩:=this.2 j hj;simp only[QK,QF,U3] at hx;rcases hx with hx|hx
 ·exact hx▸he e he'
 ·exact hc e.on (he e he') j hx
def alY{rd:A9 Nat}{o:Oper}{K:Act->AQ->Prop}(ho:ops[i]? =some o)(KC:∀c,o.op≠ .defer c)
 (h:if Region.wanted o (yielded ops a.tmps) then o.wp P a w K Q else K (a.put o.dst undef) w):Qe (Fk rd) P ops Q i K a w:=by
 unfold Qe;simp only[ho];split
 ·rename_i hw;rw[if_pos hw] at h;exact Yy KC h
 ·rename_i hw;rw[if_neg hw] at h;exact⟨λ_ _=>trivial,h⟩
def ahu{F:Fence}(hq:Q .normal a w)(fuel:Nat)(listed:B6 Bool)(hsz:listed.size=ops.size)(hL:∀j,j<ops.size->Db listed j):PR F P ops Q fuel listed a w:=by
 have hr:Region.ready .any ops listed=[]:=by
  apply List.eq_nil_iff_forall_not_mem.2;intro i hi;obtain⟨o,ho,hn,_⟩:=(VY hsz).1 hi;exact hn<|hL i (S3.1 ho).1
 cases fuel with
 |zero=>exact⟨hr,hq⟩
 |succ f=>exact⟨λ_=>hq,λi hi=>by rw[hr] at hi;cases hi⟩
def agq{F:Fence}(Kj:Nf ops av=true)(Jf:QS ops k av=true):∀(l:A3 Oper)
  (i fuel:Nat) (listed:B6 Bool) (a:Act) (w:AQ),l=ops.toList.drop i->k<=i->i<=ops.size->listed.size=ops.size->(∀j,j<ops.size->(Db listed j↔j<i))->
   (∀m,Db listed m->∀j∈av.getD m [],Db listed j)->unl listed<=fuel->wpListIn F 0 P ops Q l a w->PR F P ops Q fuel listed a w:=by
 intro l
 induction l with
 |nil=>
  intro i fuel listed a w hl hki hi hsz hL hc hu hw;have:ops.size<=i:=by simpa using List.drop_eq_nil_iff.1 hl.symm
  exact ahu hw fuel listed hsz (λj hj=>(hL j hj).2 (by omega))
 |cons o l ih=>
  intro i fuel listed a w hl hki hi hsz hL hc hu hw;have Sh:i<ops.size:=by
   apply Cl;intro Kh;rw[List.drop_eq_nil_of_le (by simp<;>omega)] at hl;cases hl
  have hnl: ¬Db listed i:=λh=>by have:=(hL i Sh).1 h;omega
  have ho:ops[i]? =some o:=by
   have:(ops.toList.drop i)[0]? =some o:=by rw[<-hl];rfl
   simpa using this
  have hl':l=ops.toList.drop (i+1):=by
   have:=congrArg List.tail hl;simpa using this
  have hne:=wA Kj hsz Sh hnl;have only:∀j∈Region.ready .any ops listed,j=i:=by
   intro j hj;obtain⟨o',LH,hn,_⟩:=(VY hsz).1 hj;have acO:=(S3.1 LH).1;have hji:i<=j:=by
    apply Cl;intro hlt;exact hn ((hL j acO).2 (by omega))
   have atp:=o5 Kj hsz hc hj;simp only[QS,Bx,DZ,QJ,QK,Tu,U3] at Jf;rcases Jf.2 j acO with hx|hx
   ·omega
   ·apply Cl;intro hne;have:=(hL i Sh).1 (atp i (hx i (by omega)));omega
  cases fuel with
  |zero=>
   exact absurd (xz (by omega)<|hsz▸Sh) hnl
  |succ f=>
   refine⟨λe=>absurd e hne,λj hj=>?_⟩;have hji:=only j hj;subst hji;have IQ:j<listed.size:=hsz▸Sh;have next:∀a' w',wpListIn F 0 P ops Q l a' w'->PR F P ops Q f (listed.setIfInBounds j true) a' w':=by
    intro a' w' hw';refine ih (j+1) f _ a' w' hl' (by omega) (by omega) (by simp[hsz]) ?_ ?_ ?_ hw'
    ·intro m hm;rw[QQ IQ,hL m hm];omega
    ·intro m hm x hx;rw[QQ IQ] at hm⊢;rcases hm with hm|hm
     ·subst hm;exact .inr<|o5 Kj hsz hc hj x hx
     ·exact .inr<|hc m hm x hx
    ·have:=zK IQ hnl;omega
   unfold wpListIn at hw;unfold Qe;simp only[ho];split
   ·rename_i hwt;rw[if_pos hwt] at hw;exact uo next hw
   ·rename_i hwt;rw[if_neg hwt] at hw;exact⟨hw.1,next _ _ hw.2⟩
def other(listed:B6 Bool)(S:A3 Ctx)(k lo:Nat)(t:Nat):Bool:=(List.range k).all λj=> !(decide (lo<=j)&&listed.getD j false)||(S.getD j []).all λq=>q.1 !=t
def UT(listed:B6 Bool)(S:A3 Ctx)(k:Nat)(Γ:Ctx):Ctx:=
 ((List.range k).flatMap λj=>if listed.getD j false=true then(S.getD j []).filter (λq=>other listed S k (j+1) q.1) else [])++
 Γ.filter λq=>other listed S k 0 q.1
theorem eX{lo t:Nat}:other listed S k lo t=true↔∀j c,lo<=j->j<k->Db listed j->S[j]? =some c->∀q∈c,q.1≠t:=by grind [other,Db]
def TY{Γ:Ctx}{q:Nat×AN}:q∈UT listed S k Γ↔
  (∃j c,j<k/\Db listed j/\S[j]? =some c/\q∈c/\∀j' c',j<j'->j'<k->Db listed j'->S[j']? =some c'->∀q'∈c',q'.1≠q.1)\/(q∈Γ/\∀j c',j<k->Db listed j->S[j]? =some c'->∀q'∈c',q'.1≠q.1):=by
 simp only[UT,Cp,ZK,QJ,HZ];constructor
 ·rintro(⟨j,hj,h⟩|⟨h1,h2⟩)
  ·left;split at h
   ·rename_i hl;obtain⟨h1,h2⟩:=HZ.1 h;rw[eX] at h2;cases hc:S[j]? with
    |none=>rw[IF,hc] at h1;cases h1
    |some c=>
     rw[IF,hc] at h1;exact⟨j,c,hj,hl,hc,h1,λj' c' h3 h4 h5 h6=>h2 j' c' h3 h4 h5 h6⟩
   ·cases h
  ·right;rw[eX] at h2;exact⟨h1,λj c' h3 h4 h5=>h2 j c' (FM _) h3 h4 h5⟩
 ·rintro(⟨j,c,hj,hl,hc,hq,hm⟩|⟨h1,h2⟩)
  ·left;refine⟨j,hj,?_⟩;have hl':listed.getD j false=true:=hl;rw[if_pos hl'];exact HZ.2 ⟨by rw[IF,hc];exact hq,eX.2 λj' c' h3 h4 h5 h6=>hm j' c' h3 h4 h5 h6⟩
  ·exact .inr ⟨h1,eX.2 λj c' _ h3 h4 h5=>h2 j c' h3 h4 h5⟩
def KV(c:Ctx):A3 (Nat×A3 Nat):=c.map λp=>(p.1,p.2.By)
def yg{p:Nat×AN}(h:p∈c):(p.1,p.2.By)∈KV c:=Bv.2 ⟨p,h,rfl⟩
theorem Vk{p:Nat×AN}{l:A3 Nat}(h:p∈c)(hl:p.1∈l):meets (KV c) l=true:=by(simp_all [meets,KV]<;>grind)
theorem xY{t:Nat}(h:meets (KV c) [t]=true):t∈c.map (·.1):=by grind [meets,KV]
def aoh{m:Nat}(h:Db listed m):m<listed.size:=by
 apply Cl;intro Kh;simp[Db,U5,hZ<|ZJ Kh] at h
def agh{Γ:Ctx}(As:JV (ops.toList.take k)=true)(Kj:Nf ops av=true)(KC:Sj k kl Df De L av=true)(hkn:k<=ops.size)(UU:∀i,k<=i->i<ops.size->∀j,j<k->j∈av.getD i [])
 (Jh:S.reverse.map KV=kl)(hL:ON Γ=L)
 (hp:Ec P N ops Γ [] (ops.toList.take k) Df De S)(KX:E7 (S.flatten++Γ) ts G3)
 (KD:∀(fuel:Nat) (listed:B6 Bool) (a:Act) (w:AQ) (H:HV),listed.size=ops.size->(∀j,j<ops.size->(Db listed j↔j<k))->(∀m,Db listed m->∀j∈av.getD m [],Db listed j)->unl listed<=fuel->Sat w0 H0 N G3 a w H->PR (Fk w0.rd) P ops Q fuel listed a w):
  ∀(fuel:Nat) (listed:B6 Bool) (a:Act) (w:AQ) (H:HV),listed.size=ops.size->(∀m,Db listed m->∀j∈av.getD m [],Db listed j)->(∀i,k<=i->i<ops.size-> ¬Db listed i)->
   unl listed<=fuel->Sat w0 H0 N (UT listed S.reverse k Γ) a w H->PR (Fk w0.rd) P ops Q fuel listed a w:=by
 obtain⟨⟨S',hS',hlen⟩,hnl,Jg,hat⟩:=hp.at_;have hSl:S.length=k:=by rw[hS'];simp[hlen,hkn]
 have aon:Df.length=k:=by rw[hnl];simp[hkn]
 have aqk:De.length=k:=by rw[Jg];simp[hkn]
 have key:∀j c,S.reverse[j]? =some c->kl.getD j []=KV c:=by
  intro j c h;rw[<-Jh,IF,Gg,h]
  rfl
 simp only[Sj,Bx] at KC;obtain⟨hc1,Gb⟩:=KC;have sj:∀i j (ci cj:Ctx),i<j->j<k->S.reverse[i]? =some ci->S.reverse[j]? =some cj->((∃p∈ci,p.1∈Df.getD j [])\/(∃p∈ci,∃q∈cj,p.1=q.1)\/(∃p∈cj,p.1∈Df.getD i []))->i∈av.getD j []:=by
  intro i j ci cj LJ hj h1 h2 h3;simp only[DZ,QJ,QK,GW,U3] at hc1;rcases hc1 j hj i LJ with h|h
  ·rw[key i ci h1,key j cj h2] at h;simp only[Jr] at h;exfalso;rcases h3 with⟨p,hp,h3⟩|⟨p,hp,q,hq,h3⟩|⟨p,hp,h3⟩
   ·have:=Vk hp h3;rw[h.1.1] at this;cases this
   ·have:=Vk (l:=(KV cj).map (·.1)) hp (by rw[h3];exact Bv.2 ⟨_,yg hq,rfl⟩);rw[h.1.2] at this;cases this
   ·have:=Vk hp h3;rw[h.2] at this;cases this
  ·exact h
 have lean:∀j (cj:Ctx),j<k->De.getD j true=true->S.reverse[j]? =some cj->∀p∈cj.take 1,(p.1∉L)/\∀i (ci:Ctx),i<k->S.reverse[i]? =some ci->∀q∈ci,p.1∈q.2.By->(i≠j/\(q.1∈cj.map (·.1)\/j∈av.getD i []\/∃m,m∈av.getD j []/\i<m/\meets (kl.getD m []) [q.1]=true))\/(i=j/\∀p'∈cj.take 1,p'.1≠q.1):=by
  intro j cj hj hpj h1 p hp;have tk:(KV cj).take 1=KV (cj.take 1):=by simp[KV,qM]
  simp only[DZ,QJ,QK,GW,Bx] at Gb;rcases Gb j hj with h|⟨h2,h3⟩
  ·rw[hpj] at h;cases h
  ·rw[key j cj h1,tk] at h2;refine⟨(λhm=>by have:=Vk hp hm;rw[h2] at this;cases this),λi ci hi h4 q hq h5=>?_⟩;have h6:=h3 i hi (q.1,q.2.By) (by rw[key i ci h4];exact yg hq);have h6:=h6 p.1 h5;simp only[QK,GW,Bx,M8,ne_eq,U3] at h6;rcases h6 with(h6|⟨h6,(h7|h7)|h7⟩)|⟨h6,h7⟩
   ·have:=Vk (l:=[p.1]) hp (by simp);rw[key j cj h1,tk] at h6;rw[h6] at this;cases this
   ·refine .inl ⟨h6,.inl ?_⟩;rw[key j cj h1] at h7;exact xY h7
   ·exact .inl ⟨h6,.inr<| .inl h7⟩
   ·obtain⟨m,hm,h8⟩:=gU.1 h7;simp only[Bx,Tu] at h8;exact .inl ⟨h6,.inr<| .inr ⟨m,hm,h8.1,h8.2⟩⟩
   ·refine .inr ⟨by simpa using h6,λp' hp' e=>?_⟩;rw[key j cj h1,tk] at h7;have:=Vk (l:=[q.1]) hp' (by simp[e]);rw[h7] at this;cases this
 have pure:∀i o,i<k->ops[i]? =some o->∃c,S.reverse[i]? =some c/\abL P N ops Γ (Df.getD i []) (De.getD i true) S.reverse i o c:=by
  intro i o hi ho;have e1:Df[i]? =some (Df.getD i []):=by simp[IF,aon,hi]
  have e2:De[i]? =some (De.getD i true):=by simp[IF,aqk,hi]
  obtain⟨p,h1,h2⟩:=hat i o _ _ (by rw[List.getElem?_take_of_lt hi];simpa using ho) e1 e2;exact⟨p,by simpa using h1,by simpa using h2⟩
 have toTail:∀(fuel:Nat) (listed:B6 Bool) (a:Act) (w:AQ) (H:HV),listed.size=ops.size->(∀m,Db listed m->∀j∈av.getD m [],Db listed j)->(∀i,k<=i->i<ops.size-> ¬Db listed i)->
   unl listed<=fuel->(∀j,j<k->Db listed j)->Sat w0 H0 N (UT listed S.reverse k Γ) a w H->PR (Fk w0.rd) P ops Q fuel listed a w:=by
  intro fuel listed a w H hsz hc Jh hu hall BA;refine KD fuel listed a w H hsz ?_ hc hu<|BA.weaken ?_
  ·intro j hj;constructor
   ·intro h;apply Cl;intro Kh;exact Jh j (by omega) hj h
   ·exact hall j
  ·intro q hq;have hat:=nL (S:=S.reverse) (λj _=>rfl)<|KX.looks q hq
   rw[hSl] at hat;rw[TY];rcases hat with⟨j,c,hj,h1,h1',h2⟩|⟨h1,h2⟩
   ·exact .inl ⟨j,c,hj,hall j hj,h1,h1',λj' q' h3 h4 _ h5=>h2 j' q' h3 h4 h5⟩
   ·exact .inr ⟨h1,λj q' h3 _ h5=>h2 j q' h3 h5⟩
 intro fuel
 induction fuel with
 |zero=>
  intro listed a w H hsz hc Jh hu BA;exact toTail 0 listed a w H hsz hc Jh hu (λj hj=>xz (by omega) (by omega)) BA
 |succ f ih=>
  intro listed a w H hsz hc Jh hu BA;by_cases hall:∀j,j<k->Db listed j
  ·exact toTail (f+1) listed a w H hsz hc Jh hu hall BA
  ·have⟨j0,hj0,hn0⟩:∃j,j<k/\ ¬Db listed j:=by
    apply Cl;intro atl;exact hall λj hj=>Cl λh=>atl ⟨j,hj,h⟩
   refine⟨λe=>absurd e (wA Kj hsz (by omega) hn0),λi hi=>?_⟩;obtain⟨o,ho,hni,_⟩:=(VY hsz).1 hi;have Sh:=(S3.1 ho).1;have hil:i<listed.size:=hsz▸Sh;have jh:=o5 Kj hsz hc hi;by_cases hik:i<k
   ·obtain⟨c,hp1,hp2⟩:=pure i o hik ho;obtain⟨Ag,hex,BE⟩:=hp2.exec;have hin:∀q∈Ag,q∈UT listed S.reverse k Γ:=by
     intro q hq;obtain⟨hm,hx⟩:=BE q hq;have up:∀j' c',i<=j'->j'<k->Db listed j'->S.reverse[j']? =some c'->∀q'∈c',q'.1≠q.1:=by
      intro j' c' h3 h4 h5 h6 q' hq' e;rcases Nat.lt_or_eq_of_le h3 with h3|h3
      ·have:=sj i j' c c' h3 h4 hp1 h6 (.inr<| .inr ⟨q',hq',e▸hm⟩);exact hni<|hc j' h5 i this
      ·subst h3;exact hni h5
     refine TY.2 ?_;rcases hx with⟨j,cj,hj,hqj,hqc,Mw⟩|⟨hx,Mw⟩
     ·refine .inl ⟨j,cj,by omega,jh j<|sj j i cj c hj hik hqj hp1<| .inl ⟨q,hqc,hm⟩,hqj,hqc,λj' c' h3 h4 h5 h6=>?_⟩;rcases Hp j' i with h7|h7
      ·exact Mw j' c' h3 h7 h6
      ·exact up j' c' h7 h4 h5 h6
     ·refine .inr ⟨hx,λj' c' h4 h5 h6=>?_⟩;rcases Hp j' i with h7|h7
      ·exact Mw j' c' h7 h6
      ·exact up j' c' h7 h4 h5 h6
    have JD:De.getD i true=true->∀q∈UT listed S.reverse k Γ,q.1∉c.map (·.1)->∀p∈c.take 1,p.1∉q.2.By:=by
     intro hpt q hq hnk p hp e;obtain⟨l1,l2⟩:=lean i c hik hpt hp1 p hp;rcases TY.1 hq with⟨j,cj,hj,hlj,hqj,hqc,Mw⟩|⟨hq,_⟩
     ·rcases(l2 j cj hj hqj q hqc e).resolve_right (λh=>by obtain⟨rfl,_⟩:=h;exact hni hlj)|>.2 with h|h
      ·exact hnk h
      ·rcases h with h|⟨m,hm,him,hme⟩
       ·exact hni<|hc j hlj i h
       ·have hlm:=jh m hm;have hmk:m<k:=by
         apply Cl;intro Kh;exact Jh m (by omega) (hsz▸aoh hlm) hlm
        obtain⟨cm,hcm,_⟩:=pure m ops[m] hmk (by simp<;>omega);rw[key m cm hcm] at hme;obtain⟨y,hy1,hy2⟩:=Bv.1<|xY hme
        exact Mw m cm (by omega) hmk hlm hcm y hy1 hy2
     ·exact l1<|hL▸vi hq e
    have aH:De.getD i true=true->∀q∈c.take 1,∀p∈c.take 1,p.1∉q.2.By:=by
     intro hpt q hq p hp e;rcases(lean i c hik hpt hp1 p hp).2 i c hik hp1 q (QP hq) e with h|h
     ·exact h.1 rfl
     ·exact h.2 q hq rfl
    obtain⟨Γn,Ez,j8⟩:=hex _ hin JD aH;refine alY ho (nA As (OV (i:=i) (by rw[List.getElem?_take_of_lt hik];simpa using ho)))<|Ez w0 H0 a w H BA _ Q λa' w' H' KB=>?_
    refine ih _ _ w' H' (by simp[hsz]) ?_ ?_ ?_<|KB.weaken ?_
    ·intro m hm x hx;rw[QQ hil] at hm⊢;rcases hm with hm|hm
     ·subst hm;exact .inr<|jh x hx
     ·exact .inr<|hc m hm x hx
    ·intro m hm1 hm2;rw[QQ hil];rintro(h|h)
     ·omega
     ·exact Jh m hm1 hm2 h
    ·have:=zK hil hni;omega
    ·intro q hq;refine j8 q ?_;rcases TY.1 hq with⟨j,cj,hj,hlj,hqj,hqc,Mw⟩|⟨hq,Mw⟩
     ·by_cases hji:j=i
      ·subst hji;rw[hp1] at hqj;cases hqj;exact Mn _ hqc
      ·have acL:Db listed j:=by
        rw[QQ hil] at hlj;rcases hlj with h|h
        ·exact absurd h hji
        ·exact h
       refine ZR _ (Vj.2 ⟨TY.2 (.inl ⟨j,cj,hj,acL,hqj,hqc,λj' q' h3 h4 h5 h6=>Mw j' q' h3 h4 (by rw[QQ hil];exact .inr h5) h6⟩),λe=>?_⟩);obtain⟨p,hp,e⟩:=Bv.1 e;rcases Hp i j with h7|h7
       ·exact hni<|hc j acL i<|sj i j c cj h7 hj hp1 hqj<| .inr<| .inl ⟨p,hp,q,hqc,e⟩
       ·exact Mw i c (by omega) hik (by rw[QQ hil];exact .inl rfl) hp1 p hp e
     ·refine ZR _ (Vj.2 ⟨TY.2 (.inr ⟨hq,λj q' h4 h5 h6=>Mw j q' h4 (by rw[QQ hil];exact .inr h5) h6⟩),λe=>?_⟩);obtain⟨p,hp,e⟩:=Bv.1 e;exact Mw i c hik (by rw[QQ hil];exact .inl rfl) hp1 p hp e
   ·exfalso;exact hn0 (jh j0 (UU i (by omega) Sh j0 hj0))
def ahP{Γ:Ctx}(As:JV (ops.toList.take k)=true)(Kj:Nf ops av=true)(KC:Sj k kl Df De L av=true)(Jf:QS ops k av=true)
 (Jh:S.reverse.map KV=kl)(hL:ON Γ=L)
 (hp:Ec P N ops Γ [] (ops.toList.take k) Df De S)(KX:E7 (S.flatten++Γ) ts G3)
 (KD:∀a w H,Sat w0 H0 N G3 a w H->wpListIn (Fk w0.rd) 0 P ops Q (ops.toList.drop k) a w):
  ∀(fuel:Nat) (listed:B6 Bool) (a:Act) (w:AQ) (H:HV),listed.size=ops.size->(∀m,Db listed m->∀j∈av.getD m [],Db listed j)->(∀i,k<=i->i<ops.size-> ¬Db listed i)->
   unl listed<=fuel->Sat w0 H0 N (UT listed S.reverse k Γ) a w H->PR (Fk w0.rd) P ops Q fuel listed a w:=by
 have sH:=Jf;simp only[QS,Bx,DZ,QJ,QK,Tu,U3] at sH;have hkn:k<=ops.size:=sH.1;refine agh As Kj KC hkn (λi hi hn j hj=>?_) Jh hL hp KX λfuel listed a w H hsz hl hc hu hs=>agq Kj Jf _ k fuel listed a w rfl (BM _) hkn hsz hl hc hu<|KD a w H hs
 rcases sH.2 i hn with h|h
 ·omega
 ·exact h j (by omega)
def zD{Γ:Ctx}{id:Nat}(hm:P.follows .mixedOrders=true)(As:JV (ops.toList.take k)=true)(Kj:Nf ops av=true)(KC:Sj k kl Df De L av=true)(Jf:QS ops k av=true)
 (Jh:S.reverse.map KV=kl)(hL:ON Γ=L)
 (hp:Ec P N ops Γ [] (ops.toList.take k) Df De S)(KX:E7 (S.flatten++Γ) ts G3)
 (KD:∀a w H,Sat w0 H0 N G3 a w H->wpListIn (Fk w0.rd) 0 P ops Q (ops.toList.drop k) a w)
 {H:HV}(hs:Sat w0 H0 N Γ a w H):(Code.region id ops true).wpIn (Fk w0.rd) 0 P Q a w:=by
 refine adi hm (ahP As Kj KC Jf Jh hL hp KX KD ops.size _ a _ H (by simp) ?_ ?_ ?_ ?_)
 ·intro m h;exact absurd h kN
 ·intro i _ hi h;exact absurd h kN
 ·simp[unl]
 ·have he:Ext w H {w with drawn:=w.drawn+1} H:=⟨⟨⟨rfl,rfl,rfl,BM _,λ_ _=>rfl⟩,Gu.of<|QG _⟩,HV.le.refl _,λ_ _=>rfl,hs.sub⟩;refine(fJ hs he).weaken λq hq=>?_
  rcases TY.1 hq with⟨j,_,_,hl,_⟩|⟨hq,_⟩
  ·exact absurd hl kN
  ·exact hq
end
section
variable[D:DR]
def Goal(P:C7)(w0:Ae P)(H0:HV)(N:Nat)(c:Code)(Q:Exit->Act->AQ->Prop)(Γ:Ctx):Prop:=
 ∀a w H,Sat w0 H0 N Γ a w H->c.wpIn (Fk w0.rd) 0 P Q a w
def ES{P:C7}(w0:Ae P)(H0:HV)(N:Nat)(K:Act->AQ->Prop)(Γ:Ctx):Prop:=∀a w H,Sat w0 H0 N Γ a w H->K a w
end
section
variable[D:DR]
variable{P:Program}{w0:Ae P}{H0:HV}{N:Nat}{Q:Exit->Act->World->Prop}{Γ Al:Ctx}
variable{w:AQ}{ρ:Type}{a:Act}{fn:Func}{c:Code}{r:ρ}{H:HV}{args:A3 Ty}{id:Nat}{ts:A3 Nat}{n:Nat}{α:Type}{f:FuncId}{E:Ah}{sz:Nat}{rs:A3 ResultVar}{l:A3 Ty}{x:Code}{t:Nat}{b:Bool}{K:α->A9 ρ}
def A8{y:Code}(h:Goal P w0 H0 N x (Exit.then (y.wpIn (Fk w0.rd) 0 P Q) Q) Γ):Goal P w0 H0 N (.seq x y) Q Γ:=λa w H hs=>wpIn_seq<|h a w H hs
def yl{l:A3 Oper}(As:JV l=true)(h:JE P w0 N l.toArray l Γ Al)(k:ES w0 H0 N (Q .normal) Al):Goal P w0 H0 N (.region id l.toArray false) Q Γ:=
 λa w H hs=>wpIn_region_lit<|h.sound As H0 a w H hs Q k
def ap7{ops:B6 Oper}{k:Nat}{S:A3 Ctx}{G3:Ctx}(As:JV ops.toList=true)(kl:A3 (A3<|Nat×A3 Nat))(L:A3 Nat)(av Df:A3 (A3 Nat))(De:A3 Bool)(hm:P.follows .mixedOrders=true)(hc:(Nf ops av&&Sj k kl Df De L av&&QS ops k av)=true)
 (hp:Ec P N ops Γ [] (ops.toList.take k) Df De S)(Jh:S.reverse.map KV=kl)(hL:ON Γ=L)(KX:E7 (S.flatten++Γ) ts G3)(KD:JE P w0 N ops (ops.toList.drop k) G3 Al)(kk:ES w0 H0 N (Q .normal) Al):Goal P w0 H0 N (.region id ops true) Q Γ:=by
 simp only[Bx] at hc;have h1:JV (ops.toList.take k)=true:=DZ.2 λo ho=>DZ.1 As o<|QP ho
 have h2:JV (ops.toList.drop k)=true:=DZ.2 λo ho=>DZ.1 As o<|Tx ho
 exact λa w H hs=>zD hm h1 hc.1.1 hc.1.2 hc.2 Jh hL hp KX (H0:=H0) (λa w H hs=>KD.sound h2 H0 a w H hs Q kk) hs
def AF(k:ES w0 H0 N (Q .normal) Γ):Goal P w0 H0 N .skip Q Γ:=λa w H hs=>wpIn_skip<|k a w H hs
def AE(k:ES w0 H0 N (Q .ret) Γ):Goal P w0 H0 N .ret Q Γ:=λa w H hs=>wpIn_ret<|k a w H hs
def Aj(k:ES w0 H0 N (Q<| .exit id) Γ):Goal P w0 H0 N (.exit id) Q Γ:=λa w H hs=>wpIn_exit<|k a w H hs
def AH(h:Goal P w0 H0 N c (Exit.inBlock id Q) Γ):Goal P w0 H0 N (.block id c) Q Γ:=λa w H hs=>wpIn_block<|h a w H hs
def UF{y:Code}(hl:look Γ t=some (.val<|Ay b))(hx:b=true->Goal P w0 H0 N x Q Γ)(hy:b=false->Goal P w0 H0 N y Q Γ):Goal P w0 H0 N (.cond (.tmp t) x y) Q Γ:=by
 intro a w H hs;have hv:Ab a t= .bool b:=hs.holds _<|B5 hl
 exact wpIn_cond_split (t:=b) hv (λh=>hx h a w H hs)<|λh=>hy h a w H hs
def M6(h:E7 Γ ts Al)(k:Goal P w0 H0 N c Q Al):Goal P w0 H0 N c Q Γ:=λa w H hs=>k a w H<|hs.weaken h.sub
def wp_loop_ghost{F:Fence}{ι:Type}(I:ι->Act->AQ->Prop)(μ:ι->Nat)(i0:ι)(asr:I i0 a w)
 (round:∀i x y,I i x y->c.wpIn F n P (Exit.then (λa' w'=>∃j,I j a' w'/\μ j<μ i) Q) x y):(Code.loop c).wpIn F n P Q a w:=by
 intro b k cs hro hb hr;have key:∀n i a w,μ i=n->I i a w->∃e a' w',Q e a' w'/\ArrivesIn (Machine.fenced P F) P (lone (b.atR a (.code c:: .inLoop c::k)) cs w) b k cs e a' w':=by
  intro n
  induction n using Nat.strongRecOn with
  |_ n ih=>
   intro i a w hn hI;obtain⟨e,a1,w1,hq,Si⟩:=round i a w hI b (.inLoop c::k) cs hro hb hr;cases e with
   |normal=>
    obtain⟨j,hj,hlt⟩:=hq;obtain⟨e2,a2,w2,hq2,arJ⟩:=ih (μ j) (hn▸hlt) j a1 w1 rfl hj;exact⟨e2,a2,w2,hq2,.of_steps (StepsIn.trans Si<| .one (fenced_calm hb hr rfl) stepR_inLoop) arJ⟩
   |exit id=>exact⟨_,a1,w1,hq,.pass (x:= .inLoop c) rfl (λ_ _=> .inl (by simp)) Si⟩
   |goto l=>exact⟨_,a1,w1,hq,.pass (x:= .inLoop c) rfl (λ_ _=> .inl (by simp)) Si⟩
   |ret=>exact⟨_,a1,w1,hq,.pass (x:= .inLoop c) rfl (λ_ _=> .inl (by simp)) Si⟩
   |panic ch=>exact⟨_,a1,w1,hq,.pass (x:= .inLoop c) rfl (λ_ _=> .inl (by simp)) Si⟩
   |outgrown=>exact⟨_,a1,w1,hq,.pass (x:= .inLoop c) rfl (λ_ _=> .inl (by simp)) Si⟩
 obtain⟨e,a',w',hq,Si⟩:=key _ i0 a w rfl asr;exact⟨e,a',w',hq,.of_steps (.one (fenced_calm hb hr rfl) stepR_loop) Si⟩
theorem Mi(h:IK w0 N Γ Al)(k:Goal P w0 H0 N c Q Al):Goal P w0 H0 N c Q Γ:=by grind [IK,Goal]
theorem E3{K:Act->AQ->Prop}(h:IK w0 N Γ Al)(k:ES w0 H0 N K Al):ES w0 H0 N K Γ:=by grind [IK,ES]
def bd{α ρ:Type}(e:A9 α)(K:α->A9 ρ):A9 ρ:=match e with
 |none=>none
 |some x=>K x
def gC{ρ:Type}(c:Bool)(K:A9 ρ):A9 ρ:=match c with
 |true=>K
 |false=>none
def Aq{α ρ:Type}(g:Bool)(d:α)(e:A9 α)(K:α->A9 ρ):A9 ρ:=match g with
 |true=>bd e K
 |false=>K d
def jn{α ρ:Type}(K:α->A9 ρ)(E:(α->A9 ρ)->A9 ρ):A9 ρ:=E K
def lp{σ ρ:Type}:Nat->((σ->A9 ρ)->σ->A9 ρ)->σ->A9 ρ
 |0,_,_=>none
 |n+1,B,s=>B (lp n B) s
theorem Ax{e:A9 α}(h:bd e K=some r):∃x,e=some x/\K x=some r:=by(simp_all [bd]<;>grind)
def WM{c:Bool}{K:A9 ρ}(h:gC c K=some r):c=true/\K=some r:=by
 cases c
 ·cases h
 ·exact⟨rfl,h⟩
def LP{g:Bool}{d:α}{e:A9 α}(h:Aq g d e K=some r):∃x,(g=true->e=some x)/\K x=some r:=by
 cases g
 ·exact⟨d,(λe=>nomatch e),h⟩
 ·obtain⟨x,h1,h2⟩:=Ax h;exact⟨x,λ_=>h1,h2⟩
def apg{x y:A9 ρ}{r:A9 ρ}(h:cond b x y=r)(hb:b=true):x=r:=by subst hb;exact h
def aph{x y:A9 ρ}{r:A9 ρ}(h:cond b x y=r)(hb:b=false):y=r:=by subst hb;exact h
def Mid{P:C7}{α ρ:Type}(w0:Ae P)(H0:HV)(N:Nat)(JG:α->Ctx)(k:α->A9 ρ)(r:ρ)(a:Act)(w:AQ):Prop:=∃i,k i=some r/\∃H,Sat w0 H0 N (JG i) a w H
def SA(JG:α->Ctx){E:(α->A9 ρ)->A9 ρ}(hm:jn K E=some r)
 (h:∀k,E k=some r->Goal P w0 H0 N x (Exit.then (Mid w0 H0 N JG k r) Q) Γ)(kk:∀i,K i=some r->ES w0 H0 N (Q .normal) (JG i)):Goal P w0 H0 N x Q Γ:=
 λa w H hs=>Vu (h K hm a w H hs) λe a' w' q=>by
  cases e with
  |normal=>obtain⟨i,hi,H',Co⟩:=q;exact kk i hi a' w' H' Co
  |_=>exact q
def arU{JG:α->Ctx}{k:α->A9 ρ}{i:α}(hm:k i=some r)(h:E7 Γ ts (JG i)):ES w0 H0 N (λa w=>Mid w0 H0 N JG k r a w) Γ:=
 λ_ _ H hs=>⟨i,hm,H,hs.weaken h.sub⟩
def ab7{σ:Type}(Ag:σ->Ctx){B:(σ->A9 ρ)->σ->A9 ρ}{s0:σ}(hm:lp n B s0=some r)(h0:E7 Γ ts (Ag s0))
 (round:∀(k:σ->A9 ρ) (s:σ),B k s=some r->Goal P w0 H0 N c (Exit.then (Mid w0 H0 N Ag k r) Q) (Ag s)):Goal P w0 H0 N (.loop c) Q Γ:=by
 intro a w H hs;refine wp_loop_ghost (λ(i:Nat×σ) a w=>lp i.1 B i.2=some r/\∃H,Sat w0 H0 N (Ag i.2) a w H) (λi=>i.1) (n,s0) ⟨hm,H,hs.weaken h0.sub⟩ ?_;rintro⟨m,s⟩ a w ⟨hl,H,hs⟩;cases m with
 |zero=>cases hl
 |succ m=>
  refine Vu (round (lp m B) s hl a w H hs) λe a' w' q=>?_
  cases e with
  |normal=>obtain⟨i,hi,H',Co⟩:=q;exact⟨(m,i),⟨hi,H',Co⟩,Nat.lt_succ_self m⟩
  |_=>exact q
inductive Res where
 |vs(l:A3 Ty)
 |fr(E:Ah)(sz:Nat)(l:A3 Ty)
def KR(H:HV):A3 Ty->AR->Prop
 |[τ],v=>τ.ok H v
 |l,v=>∃vs,v= .tuple vs/\Ee H l vs.toList
def Res.holds(n:Nat)(w:AQ)(H:HV)(v:AR):Res->Prop
 | .vs l=>KR H l v
 | .fr E sz l=>∃xs,w.ownsRow 0 E sz v l.length xs/\DJ H l xs/\∀b,v.ownBlock=some b->n<=b/\H b=none
def GL(P:C7)(f:FuncId):Bool:=
 match P.funcs[f]? with
 |some fn=>fn.body.isSome&& !(fn.name== "runtime.NumGoroutine")
 |none=>false
def Returns(w:AQ)(H:HV)(Bb:Res)(e:Ending)(w':AQ):Prop:=
 ∃v,e= .returned v/\FL w.heap.size w w'/\∃H',(∀r,r<w.heap.size->H' r=H r)/\(∀r o,H' r=some o->w'.heap[r]? =some o)/\Bb.holds w.heap.size w' H' v
structure E0(P:C7)(f:FuncId)(args:A3 Ty)(Bb:Res):Prop where
 can:GL P f=true
 run:∀(w:AQ) (H:HV) (vs:A3 AR),(∀r o,H r=some o->w.heap[r]? =some o)->KP P H->Ee H args vs->Calls P f vs.toArray w (Returns w H Bb)
def E0.arh{Bb:Res}(h: @E0 DR.strict P f args Bb):E0 P f args Bb:=
 ⟨E0.can (D:=DR.strict) h,λw H vs sub gl ha=>(E0.run (D:=DR.strict) h w H vs sub gl ha).mono λe w' ⟨v,e1,hb,r⟩=>⟨v,e1,⟨FL.toBelow (D:=DR.strict) hb,Gu.of<|FL.drawn (D:=DR.strict) hb⟩,r⟩⟩
def Ha:Nat->A3 Ty->Ctx
 |_,[]=>[]
 |i,τ::l=>(i,.val τ)::Ha (i+1) l
def dr{H:HV}{B:Ae P}{a:Act}{w:AQ}:∀{l:A3 Ty} {vs:A3 AR} (i:Nat),Ee H l vs->(∀j v,vs[j]? =some v->Ab a (i+j)=v)->∀p∈Ha i l,p.2.holds B a w H (Ab a p.1)
 |[],_,_,_,_,p,hp=>by simp[Ha] at hp
 |τ::l,_,i,⟨v,rest,e,hv,hr⟩,hg,p,hp=>by
  subst e;simp only[Ha,Ai] at hp;rcases hp with e|hp
  ·subst e;have:=hg 0 v rfl;simp only[Tk] at this;rw[this];exact hv
  ·exact dr (i+1) hr (λj v hj=>by have:=hg (j+1) v (by simpa using hj);rw[<-this];congr 1;omega) p hp
def nH{w:AQ}{v:AR}{b:Nat}:∀{l:A3 Ty} {i:Nat},∀p∈Ha i l,¬p.2.owns w v b
 |[],_,p,hp=>by simp[Ha] at hp
 |τ::l,i,p,hp=>by
  simp only[Ha,Ai] at hp;rcases hp with e|hp
  ·subst e;exact λh=>h
  ·exact nH p hp
def xi{vs:A3 AR}(sub:∀r o,H r=some o->w.heap[r]? =some o)(gl:KP P H)(As:Ee H args vs)(hn:args.length<=n):
  Sat (Ae.call P w) H n (Ha 0 args) {tmps:=vs.toArray++Array.replicate (n-vs.toArray.size) undef,defers:=[]} w H:=by
 have hl:=Ro As;refine⟨trivial,by simp;omega,⟨rfl,rfl,rfl,BM _,BM _,λ_ _ _ _=>rfl⟩,λ_ _ _ _=>rfl,sub,?_,?_,gl⟩
 ·refine dr 0 As λj v hj=>?_
  have JI:=(GD.1 hj).1;have e:(vs.toArray++Array.replicate (n-vs.toArray.size) undef)[0+j]? =some v:=by
   rw[Array.getElem?_append_left (by simpa using JI)];simpa using hj
  simp[Ab,U5];simp at e;rw[e];rfl
 ·intro p hp q _ _ b hb;exact absurd hb<|nH p hp
inductive AX(P:C7)(Γ:Ctx):A3 ResultVar->A3 Ty->Prop where
 |nil:AX P Γ [] []
 |tmp {t:Nat} {τ Gl:Ty} {rs:A3 ResultVar} {l:A3 Ty} (h:look Γ t=some (.val τ)) (hi:τ=Gl) (r:AX P Γ rs l):AX P Γ (.tmp t::rs) (Gl::l)
 |cell {t T:Nat} {T':Ah} {τ Gl:Ty} {rs:A3 ResultVar} {l:A3 Ty} (h:look Γ t=some (.own T' τ)) (hT:∀(w:AQ) (b:Nat) (x:AR) (E:Ah),w.heap[b]? =some (.cells x.cells E (0,0))->Shape τ.n τ.agg x->(loadVar T ⟨b,0,none⟩).run P w= .ok x w)
   (hi:τ=Gl) (r:AX P Γ rs l):AX P Γ (.cell t T::rs) (Gl::l)
def YU(tmps:B6 AR):ResultVar->Sem AR
 | .tmp t=>pure<|tmps.getD t undef
 | .cell a t=>do loadVar t (<-asAddr (tmps.getD a undef))
def QT{bl:A3 Ty}{H':HV}{B:Ae P}{v:AR}(h:(AN.buf E sz bl).holds B a w H v)(hle:HV.le H H')(hw:∀b,v.ownBlock=some b->B.EI b->∀o,w.heap[b]? =some o->H' b=some o):(FT bl).ok H' v:=by
 obtain⟨xs,⟨hx,hc⟩,ho,hn⟩:=h;rcases hc with⟨e,hl⟩|⟨g,cap,cur,e,hB,hg,hcap,hm,hcs,ht⟩
 ·subst e;exact⟨none,0,by rw[hl],by omega,λhne=>absurd (Js hl) hne⟩
 ·subst e;refine⟨_,cap,rfl,hcap,λ_=>⟨g,0,cur,E,(0,0),rfl,hw g rfl (hn g rfl).2 _ hg,?_,?_⟩⟩
  ·have h1:=Md ho;have h2:xs.length<=cur.size:=by rw[<-ht];simp;exact Nat.min_le_right _ _
   omega
  ·have h1:=Md ho;rw[PJ,<-h1,hx,ht];exact Q8 hle ho
def AX.run{rs:A3 ResultVar}{l:A3 Ty}(h:AX P Γ rs l){a:Act}{w:AQ}{H:HV}(hs:Sat w0 H0 N Γ a w H):
  ∃vs,(rs.mapM<|YU a.tmps).run P w= .ok vs w/\Ee H l vs:=by
 induction h with
 |nil=>exact⟨[],by simp,rfl⟩
 | @tmp t τ Gl rs l h hi _ ih=>
  subst hi;obtain⟨vs,h1,h2⟩:=ih;have hv:τ.ok H (Ab a t):=hs.holds _<|B5 h
  refine⟨Ab a t::vs,?_,_,_,rfl,hv,h2⟩;simp only[List.mapM_cons,E4,h1,YU,Jp,Dp]
  rfl
 | @cell t T T' τ Gl rs l h hT hi _ ih=>
  subst hi;obtain⟨vs,h1,h2⟩:=ih;obtain⟨b,x,e,hb,hx,hn,hB⟩:=hs.holds _<|B5 h
  refine⟨x::vs,?_,_,_,rfl,hx,h2⟩;have e':a.tmps.getD t undef= .pointer (some ⟨b,0,none⟩):=e;simp only[List.mapM_cons,E4,YU,e',asAddr,Jp,Dp,hT w b x T' hb<|τ.shape hx,h1]
def Qd(P:C7)(fn:Func)(w0:Ae P)(H0:HV)(Bb:Res):Exit->Act->AQ->Prop:=bodyPostM (Fk none) 0 P fn<|Returns w0.w H0 Bb
def VM{w0:Ae P}{H0:HV}{N:Nat}{Γ:Ctx}{a:Act}{fn:Func}{R:Ending->AQ->Prop}{F:Fence}{n:Nat}(hds:w0.ds=[])(hrd:w0.rd=none):∀{ds:A3 Deferred} {w:AQ} {H:HV},Sat w0 H0 N Γ {a with defers:=ds} w H->
  (∀w' H',Sat w0 H0 N Γ {a with defers:=[]} w' H'->∃v,(results fn a.tmps).run P w'= .ok v w'/\R (.returned v) w')->LeavesInM F n P fn a.tmps R ds .returning w
 |[],w,H,hs,k=>k w H hs
 |d::ds,w,H,hs,k=>by
  have KC:=hs.nd;rw[hds,J6] at KC;obtain⟨⟨D,e,h1,h2,h3,h4⟩,hr⟩:=KC;have h1:=h1 hrd;subst e;refine⟨(by simp),.inl ⟨D,_,rfl,run_takeDeferred h2,?_⟩⟩;refine VM hds hrd (H:=H) ?_ k;have hg:Ef w (w.putObj D<| .deferred none) (some D):=⟨⟨rfl,rfl,rfl,by simp,λj _ hj=>ZV (λe=>hj (by rw[e]))⟩,BM _⟩;have hne:∀b,b≠D->(w.putObj D<| .deferred none).heap[b]? =w.heap[b]? :=λb hb=>ZV hb
  refine Ve (a:={a with defers:={target:= .collected D,args:= #[]}::ds}) hs (hs.below.LA hg λj e=>by cases e;exact .inl h1) hg.drawn (λ_ _ _ _=>rfl) (by simp) (HV.le.refl _) ?_ ?_ ?_ ?_
  ·intro r o h;rw[hne r (λe=>by subst e;rw[h3] at h;cases h)];exact hs.sub r o h
  ·intro _ b _ hb;exact⟨hne b (λe=>by subst e;have:=Ae.lo_le (b:=w0);omega),rfl⟩
  ·intro p hp;refine⟨hp,λb hb=>⟨hne b λe=>?_,rfl⟩⟩;subst e;obtain⟨_,_,o,ho,LH⟩:=AN.J5 (hs.holds p hp) hb;rw[h2] at ho;cases ho;exact LH
  ·have:∀{l:A3 Deferred},(∀e∈l,e≠{target:= .collected D,args:= #[]})->Marks w0 w H l->Marks w0 (w.putObj D<| .deferred none) H l:=by
    intro l
    induction l with
    |nil=>exact λ_ _=>trivial
    |cons x l ih=>
     rintro hn ⟨⟨D',e,g1,g2,g3,g4⟩,gr⟩;have hD:D'≠D:=λeD=>hn x (by simp) (by rw[e,eD])
     exact⟨⟨D',e,g1,by rw[hne D' hD];exact g2,g3,g4⟩,ih (λy hy=>hn y (by simp[hy])) gr⟩
   rw[hds,J6];exact this h4 hr
def YO(hr:fn.results=rs.toArray)(tmps:B6 AR):results fn tmps=(do let vs<-List.toArray<$>rs.mapM (YU tmps);pure (if h:vs.size=1 then vs[0] else .tuple vs)):=by
 unfold results;rw[hr,List.mapM_toArray]
 congr 2
def amG{Bb:A3 Ty}(hX:(w0.X,w0.Iv,w0.ds,w0.rd)=(KA,false,[],none))(hr:fn.results=rs.toArray)(h:AX P Γ rs Bb)(hs:Sat w0 H0 N Γ a w H):
  LeavesInM (Fk none) 0 P fn a.tmps (Returns w0.w H0<| .vs Bb) a.defers .returning w:=by
 refine VM (congrArg (λp=>p.2.2.1) hX) (congrArg (λp=>p.2.2.2) hX) (a:=a) (ds:=a.defers) hs λw H hs=>?_
 have hX':w0.X=KA:=congrArg Prod.fst hX;have hV:w0.Iv=false:=congrArg (λp=>p.2.1) hX;obtain⟨vs,h1,h2⟩:=h.run hs;have hl:=Ro h2;rw[YO hr];simp only[E4,Sem.run_map,h1,Dp,Jp];refine⟨_,rfl,_,rfl,hs.below.below hX' hV,H,(λr hr=>hs.GK hV r hr (by rw[hX'];exact λh=>h)),hs.sub,?_⟩
 match Bb,h2,hl with
 |[],h2,hl=>
  have:vs=[]:=h2;subst this;exact⟨#[],rfl,rfl⟩
 |[τ],h2,hl=>
  obtain⟨v,rest,e,hv,hr⟩:=h2;have:rest=[]:=hr;subst this;subst e;exact hv
 |τ::Gl::l,h2,hl=>
  have: ¬vs.toArray.size=1:=by simp[hl]
  rw[dif_neg this];exact⟨vs.toArray,rfl,by simpa using h2⟩
def ah4{l':A3 Ty}(hX:(w0.X,w0.Iv,w0.ds,w0.rd)=(KA,false,[],none))(hr:fn.results=[.tmp t].toArray)(h:look Γ t=some (.buf E sz l))(hi:l=l')(hs:Sat w0 H0 N Γ a w H):
  LeavesInM (Fk none) 0 P fn a.tmps (Returns w0.w H0<| .fr E sz l') a.defers .returning w:=by
 subst hi;refine VM (congrArg (λp=>p.2.2.1) hX) (congrArg (λp=>p.2.2.2) hX) (a:=a) (ds:=a.defers) hs λw H hs=>?_
 have hX':w0.X=KA:=congrArg Prod.fst hX;have hV:w0.Iv=false:=congrArg (λp=>p.2.1) hX;obtain⟨xs,h1,h2,h3⟩:=hs.holds _<|B5 h
 rw[YO hr];refine⟨Ab a t,?_,_,rfl,hs.below.below hX' hV,H,(λr hr=>hs.GK hV r hr (by rw[hX'];exact λh=>h)),hs.sub,xs,h1,h2,λb hb=>⟨?_,(h3 b hb).1⟩⟩
 ·simp[YU,Ab]
 ·rcases(h3 b hb).2 with h|h
  ·exact h
  ·rw[hX'] at h;exact h.elim
def CG{Bb:A3 Ty}(hX:(w0.X,w0.Iv,w0.ds,w0.rd)=(KA,false,[],none))(hr:fn.results=rs.toArray)(h:AX P Γ rs Bb):ES w0 H0 N (λa w=>Qd P fn w0 H0 (.vs Bb) .ret a w) Γ:=λ_ _ _ hs=>amG hX hr h hs
def SB{l':A3 Ty}(hX:(w0.X,w0.Iv,w0.ds,w0.rd)=(KA,false,[],none))(hr:fn.results=[.tmp t].toArray)(h:look Γ t=some (.buf E sz l))(hi:l=l'):ES w0 H0 N (λa w=>Qd P fn w0 H0 (.fr E sz l') .ret a w) Γ:=λ_ _ _ hs=>ah4 hX hr h hi hs
def agt{Bb:Res}{N:Nat}(hf:P.funcs[f]? =some fn)(hb:fn.body=some c)(hN:fn.ntmps=N)(hn:args.length<=N)(hc:GL P f=true)
 (h:∀w0 H0,Goal P (Ae.call P w0) H0 N c (Qd P fn (Ae.call P w0) H0 Bb)<|Ha 0 args):E0 P f args Bb:=by
 subst hN;exact⟨hc,λw H _ sub gl As=>(callsIn_wide (n:=0)).1<|callsIn_of_wp_marks (F:=Fence.wide) hf hb trivial<|h w H _ w H<|xi sub gl As hn⟩
def E0.congr{Wy:A3 Ty}{Bb L6:Res}(h:E0 P f args Bb)(ha:args=Wy)(hr:Bb=L6):E0 P f Wy L6:=ha▸hr▸h
def E0.pub(h:E0 P f args (.fr E sz l)):E0 P f args (.vs [FT l]):=
 ⟨h.can,λw H vs sub gl As=>(h.run w H vs sub gl As).mono λ_ w' ⟨v,e,hb,H',h1,h2,xs,h3,h4,h5⟩=>by
  refine⟨v,e,hb,λr=>if v.ownBlock=some r then w'.heap[r]? else H' r,?_,?_,?_⟩
  ·intro r hr;have:v.ownBlock≠some r:=λe=>by have:=(h5 r e).1;omega
   simp[this,h1 r hr]
  ·intro r o ho;by_cases e:v.ownBlock=some r
   ·simpa[e] using ho
   ·simp only[e,if_false] at ho;exact h2 r o ho
  ·have hle:HV.le H' (λr=>if v.ownBlock=some r then w'.heap[r]? else H' r):=by
    intro r o ho;by_cases e:v.ownBlock=some r
    ·rw[(h5 r e).2] at ho;cases ho
    ·simp[e,ho]
   exact QT (a:=⟨#[],[]⟩) (B:=Ae.call P w) (w:=w') ⟨xs,h3,h4,λb hb=>⟨(h5 b hb).2,.inl (h5 b hb).1⟩⟩ hle (λb hb _ o hbo=>by simp[hb,hbo])⟩
end
section
variable[D:DR]
variable{P:Program}{N:Nat}{ops:Array Oper}{Γ Al:Ctx}
variable{s:AN}{τ:Ty}
def Lz{o:Oper}(h:∀(w0:Ae P) (H0:HV) (N:Nat) (a:Act) (w:AQ) (H:HV),Sat w0 H0 N Γ a w H->
 ∃v w' H',(execOp a.eval o).run P w= .ok (.value v) w'/\Ext w H w' H'/\s.holds w0 a w' H' v/\∀b,s.owns w' v b->w.heap.size<=b):B1 P Γ o s:=by
 intro w0 H0 N a w H hs K Q k;obtain⟨v,w',H',hr,he,hv,hb⟩:=h w0 H0 N a w H hs;unfold Oper.wp;rw[hr,OJ];exact k v w' H' he hv hb
def Di{o:Oper}(h:∀(w0:Ae P) (H0:HV) (N:Nat) (a:Act) (w:AQ) (H:HV),Sat w0 H0 N Γ a w H->
 ∃v,(execOp a.eval o).run P w= .ok (.value v) w/\s.holds w0 a w H v/\s.free=true):B1 P Γ o s:=
 Lz λw0 H0 N a w H hs=>by
  obtain⟨v,hr,hv,hb⟩:=h w0 H0 N a w H hs;exact⟨v,w,H,hr,Ext.refl hs.sub,hv,λb e=>absurd e<|AN.free_spec hb⟩
def aiu{o:Oper}(h:∀(w0:Ae P) (H0:HV) (N:Nat) (a:Act) (w:AQ) (H:HV),Sat w0 H0 N Γ a w H->
 ∃v,(execOp a.eval o).run P w= .ok (.value v) w/\s.holds w0 a w H v/\∀b,¬s.owns w v b):B1 P Γ o s:=
 Lz λw0 H0 N a w H hs=>by
  obtain⟨v,hr,hv,hb⟩:=h w0 H0 N a w H hs;exact⟨v,w,H,hr,Ext.refl hs.sub,hv,λb e=>absurd e<|hb b⟩
structure Arg(Γ:Ctx)(x:CB)(τ:Ty):Prop where
 ok:∀{P':C7} {w0:Ae P'} {H0:HV} {N:Nat} {a:Act} {w:AQ} {H:HV},Sat w0 H0 N Γ a w H->τ.ok H (a.eval x)
def Arg.t{t:Nat}{τ:Ty}(h:look Γ t=some (.val τ)):Arg Γ (.tmp t) τ:=⟨λhs=>hs.holds _<|B5 h⟩
def Arg.o{t:Nat}{c:Bool}(h:look Γ t=some (.opt c<| .val τ))(hc:c=true):Arg Γ (.tmp t) τ:=⟨λhs=>(hs.holds _<|B5 h).1 hc⟩
def Arg.int{k:IntKind}{n:Int}:Arg Γ (.const<| .int k n) (TI k n):=⟨λ_=>rfl⟩
def Arg.bool{b:Bool}:Arg Γ (.const<| .bool b) (Ay b):=⟨λ_=>rfl⟩
def Arg.aqc:Arg Γ (.const<| .slice none 0 0) (FT []):=⟨λ_=>⟨none,0,rfl,BM _,λh=>absurd rfl h⟩⟩
def Arg.imp{x:CB}{Gl:Ty}(h:Arg Γ x τ)(hi:∀H v,τ.ok H v->Gl.ok H v):Arg Γ x Gl:=⟨λhs=>hi _ _<|h.ok hs⟩
end
section
variable[D:DR]
variable{P:Program}{N:Nat}{ops:Array Oper}{Γ Al:Ctx}
variable{d:Option Tmp}{ty:TypeId}{pos:String}{af:Array Edge}{g:Option (Nat×Bool)}
variable{T:Ah}{τ:Ty}{t sz off:Nat}{x:CB}{σ:Ty}{l:A3 Ty}{b:Bool}{k:IntKind}{i:Int}{n:Nat}{T':Ah}{len:Nat}{c:CB}{w:AQ}{cs:B6 AR}{t' o:Nat}{H:HV}{ix:CB}
def pX(h:Arg Γ x τ):B1 P Γ ⟨d,.move x,ty,pos,af,g⟩ (.val τ):=
 Di λ_ _ _ a _ _ hs=>⟨a.eval x,rfl,h.ok hs,rfl⟩
def BG(h:Arg Γ x τ):B1 P Γ ⟨d,.assign x,ty,pos,af,g⟩ (.val τ):=
 Di λ_ _ _ a _ _ hs=>⟨a.eval x,rfl,h.ok hs,rfl⟩
def P8(h:look Γ t=some (.LF l)):B1 P Γ ⟨d,.move<| .tmp t,ty,pos,af,g⟩ (.LF l):=
 Di λ_ _ _ a _ _ hs=>⟨Ab a t,rfl,hs.holds _<|B5 h,rfl⟩
def Hl{i:Nat}(h:look Γ t=some (.LF l))(hi:l[i]? =some τ):B1 P Γ ⟨d,.extract (.tmp t) i,ty,pos,af,g⟩ (.val τ):=
 Di λ_ _ _ a w _ hs=>by
  obtain⟨vs,e,ho⟩:=hs.holds _<|B5 h
  obtain⟨v,hv,As⟩:=aak ho hi;have e':a.eval (.tmp t)= .tuple vs:=e;refine⟨v,?_,As,rfl⟩;have LG:vs[i]? =some v:=by simpa using hv
  simp[execOp,e',Instr.extract,LG]
def fk{y:CB}(hc:Arg Γ c (Ay b))(hx:b=true->Arg Γ x τ)(hy:b=false->Arg Γ y τ):B1 P Γ ⟨d,.pick c x y,ty,pos,af,g⟩ (.val τ):=
 Di λ_ _ _ a w H hs=>by
  have e:a.eval c= .bool b:=hc.ok hs;refine⟨if b then a.eval x else a.eval y,?_,?_,rfl⟩
  ·simp[execOp,e,asBool]
  ·cases b
   ·simpa[AN.holds] using(hy rfl).ok hs
   ·simpa[AN.holds] using(hx rfl).ok hs
def Ce(h:b=true):gd b true=true:=h
def Cf(h:b=false):gd b false=true:=by subst h;rfl
def L8{c:Bool}(h:b=true)(k:c=true):(b&&c)=true:=by subst h;subst k;rfl
def CZ{e x:Bool}(hc:Arg Γ c (Ay b))(hx:look Γ t=some (.opt e<| .val<|Ay x))(he:b=true->e=true):B1 P Γ ⟨d,.pick c (.tmp t)<| .const<| .bool false,ty,pos,af,g⟩ (.val<|Ay<|b&&x):=by
 cases b
 ·exact fk hc (λh=>by cases h)<|λ_=>Arg.bool
 ·exact fk hc (λ_=>by simpa using Arg.o hx (he rfl)) (λh=>by cases h)
def Cc{e x:Bool}(hc:Arg Γ c (Ay b))(hx:look Γ t=some (.opt e<| .val<|Ay x))(he:b=false->e=true):B1 P Γ ⟨d,.pick c (.const<| .bool true)<| .tmp t,ty,pos,af,g⟩ (.val<|Ay (b||x)):=by
 cases b
 ·exact fk hc (λh=>by cases h) (λ_=>by simpa using Arg.o hx (he rfl))
 ·exact fk hc (λ_=>Arg.bool) (λh=>by cases h)
def aun:TypeDesc->Bool
 | .struct _| .array _ _=>true
 |_=>false
def Bm(P:C7)(T:Ah)(n:Nat)(agg:Bool):Bool:=
 match P.info? T,P.underlying T with
 |some i,some d=>Nat.beq i.size n&&(aun d==agg)&&(agg||Nat.beq n 1)
 |_,_=>false
def F0{d:TypeDesc}(h:P.underlying T=some d)(w:AQ):(underlying T).run P w= .ok d w:=by
 simp[underlying,program,Sem.run,h]
def yf{agg:Bool}(h:Bm P T n agg=true):
  (∀w,(isAgg T).run P w= .ok agg w)/\(∀w,(Go.sizeOf T).run P w= .ok n w)/\(agg=false->n=1):=by
 unfold Bm at h;split at h
 ·rename_i i dd hi hu;simp only[Bx,QK,QF] at h;obtain⟨⟨h1,h2⟩,h3⟩:=h;have h1:=EG h1;refine⟨λw=>?_,λw=>?_,λhf=>?_⟩
  ·simp only[isAgg,E4,F0 hu,Dp];subst h2;cases dd<;>rfl
  ·simp[Go.sizeOf,typeInfo,program,Sem.run,hi];simp[h1]
  ·rcases h3 with h3|h3
   ·rw[hf] at h3;cases h3
   ·exact EG h3
 ·cases h
theorem R9{agg:Bool}(h:Bm P T n agg=true){b:Nat}{E:Ah}{fr:Nat×Nat}(hb:w.heap[b]? =some (.cells cs E fr))(hl:off+n<=cs.size):
  (loadVar T ⟨b,off,none⟩).run P w= .ok (Gp agg ((cs.toList.drop off).take n).toArray) w:=by
 obtain⟨h1,h2,h3⟩:=yf h;have abl:∀j v,((cs.toList.drop off).take n)[j]? =some v->w.cell? ((⟨b,off,none⟩:Addr).add j)=some v:=by
  intro j v hj;have ai:(⟨b,off,none⟩:Addr).add j=⟨b,off+j,none⟩:=by unfold Addr.add;split<;>simp_all
  rw[ai];rw[WC] at hj;split at hj
  ·simp at hj;simp[World.cell?,hb,hj]
  ·cases hj
 have hlen:((cs.toList.drop off).take n).length=n:=by simp;omega
 cases agg
 ·have hn:=h3 rfl;subst hn;have hlt:off<cs.size:=by omega
  have hc:=abl 0 cs[off] (by simp[hlt]);have ai:(⟨b,off,none⟩:Addr).add 0=⟨b,off,none⟩:=rfl;rw[ai] at hc;simp only[loadVar,E4,h1,Dp];simp[load,Sem.run,hc,Gp,hlt]
 ·have:=run_loadCells_list (P:=P) w ⟨b,off,none⟩ _ abl;rw[hlen] at this;simp only[loadVar,E4,h1,h2,Dp,if_true,this]
  rfl
def nP{x:AR}(hn:x.cells.size=n):((x.cells.toList.drop 0).take n).toArray=x.cells:=by
 rw[PJ,Cd (by simp;omega)]
def FZ{agg:Bool}(h:Bm P T n agg=true)(w:AQ)(b:Nat)(x:AR)(E:Ah)(hb:w.heap[b]? =some (.cells x.cells E (0,0)))(hx:Shape n agg x):(loadVar T ⟨b,0,none⟩).run P w= .ok x w:=by
 rw[R9 h hb (by rw[hx.size];omega),nP hx.size,<-hx.eq]
def BN(τ:Ty)(off:Nat)(σ:Ty):Prop:=∀(H:HV) (v:AR),τ.ok H v->off+σ.n<=v.cells.size/\σ.ok H (Gp σ.agg ((v.cells.toList.drop off).take σ.n).toArray)
def BN.agg{i:Nat}(h:l[i]? =some σ)(ho:CH (l.take i)=off):BN (DG l) off σ:=by
 rintro H v ⟨cs,e,ok⟩;subst e;subst ho;have:=N7 ok h;simpa[Value.cells] using this
def BN.whole:BN τ 0 τ:=λ_ _ h=>by
 have hs:=τ.shape h;refine⟨by rw[hs.size];omega,?_⟩;rw[nP hs.size,<-hs.eq];exact h
def BN.imp{σ':Ty}(h:BN τ off σ)(hn:σ'.n=σ.n)(ha:σ'.agg=σ.agg)(hi:∀H v,σ.ok H v->σ'.ok H v):BN τ off σ':=λH v hv=>by
 obtain⟨h1,h2⟩:=h H v hv;rw[hn,ha];exact⟨h1,hi _ _ h2⟩
def Y6:(Gp true cs).cells=cs:=rfl
def BN.trans{ρ:Ty}{o1 o2:Nat}(h:BN τ o1 σ)(ha:σ.agg=true)(k:BN σ o2 ρ):BN τ (o1+o2) ρ:=λH v hv=>by
 obtain⟨h1,h2⟩:=h H v hv;obtain⟨k1,k2⟩:=k H _ h2;rw[ha] at k1 k2;simp only[Y6] at k1 k2;have hlen:(List.take σ.n<|List.drop o1 v.cells.toList).toArray.size=σ.n:=by simp;omega
 rw[hlen] at k1;refine⟨by omega,?_⟩;have:List.take ρ.n (List.drop o2<|List.take σ.n<|List.drop o1 v.cells.toList)=List.take ρ.n (List.drop (o1+o2) v.cells.toList):=by
  rw[MA,NJ,FW]
  congr 1
  omega
 simpa[this] using k2
def Ar(h:look Γ t=some (.own T' τ))(hT:Bm P T τ.n τ.agg=true):B1 P Γ ⟨d,.load T<| .tmp t,ty,pos,af,g⟩ (.val τ):=
 Di λ_ _ _ a w _ hs=>by
  obtain⟨b,x,e,hb,hx,_,_⟩:=hs.holds _<|B5 h
  have e':a.eval (.tmp t)= .pointer (some ⟨b,0,none⟩):=e;refine⟨x,?_,hx,rfl⟩;simp[execOp,e',Instr.loadAt,Instr.sureAddr,FZ hT w b x T' hb<|τ.shape hx]
def FU(h:look Γ t=some (.ptr t' off))(h':look Γ t'=some (.own T' τ))(hp:BN τ off σ)(hT:Bm P T σ.n σ.agg=true):B1 P Γ ⟨d,.load T<| .tmp t,ty,pos,af,g⟩ (.val σ):=
 Di λ_ _ _ a w _ hs=>by
  obtain⟨b,x,e,hb,hx,_,_⟩:=hs.holds _<|B5 h'
  obtain⟨b',e1,e2⟩:=hs.holds _<|B5 h
  simp only at e e1;rw[e] at e1;cases e1;have e':a.eval (.tmp t)= .pointer (some ⟨b,off,none⟩):=e2;obtain⟨h1,h2⟩:=hp _ _ hx;refine⟨_,?_,h2,rfl⟩;simp[execOp,e',Instr.loadAt,Instr.sureAddr,R9 hT hb h1]
def BX(h:Arg Γ x (JX τ))(hT:Bm P T τ.n τ.agg=true):B1 P Γ ⟨d,.load T x,ty,pos,af,g⟩ (.val τ):=
 Di λ_ _ _ a w _ hs=>by
  obtain⟨b,off,cs,E,fr,e,hb,hl,hx⟩:=h.ok hs;refine⟨_,?_,hx,rfl⟩;simp[execOp,e,Instr.loadAt,Instr.sureAddr,R9 hT (hs.sub _ _ hb) hl]
def Ga(P:C7)(T:Ah)(k off:Nat):Bool:=
 match P.underlying T with
 |some (.struct fs)=>match fs[k]? with
  |some f=>Nat.beq f.offset off&&(match P.info? f.type with|some i=> !Nat.beq i.size 0|none=>false)
  |none=>false
 |_=>false
theorem addr_add(b off n:Nat):(⟨b,off,none⟩:Addr).add n=⟨b,off+n,none⟩:=by unfold Addr.add;split<;>simp_all
def YH{k:Nat}(h:Ga P T k off=true)(b o:Nat)(w:AQ):(Instr.fieldAt T (.pointer<|some ⟨b,o,none⟩) k).run P w= .ok (.pointer<|some ⟨b,o+off,none⟩) w:=by
 unfold Ga at h;split at h
 ·rename_i fs hu;split at h
  ·rename_i f hf;simp only[Bx] at h;obtain⟨h1,h2⟩:=h;have h1:=EG h1;split at h2
   ·rename_i i hi;have hne:i.size≠0:=by
     intro e;rw[e] at h2;simp at h2
    simp[Instr.fieldAt,F0 hu,hf,Instr.sureAddr,fieldPlace,Go.sizeOf,typeInfo,program,Sem.run,hi,hne,addr_add,h1]
   ·cases h2
  ·cases h
 ·cases h
def Fs{k:Nat}(h:look Γ t=some (.own T' τ))(hf:Ga P T k off=true):B1 P Γ ⟨d,.fieldAddr T (.tmp t) k,ty,pos,af,g⟩ (.ptr t off):=
 Di λ_ _ _ a w _ hs=>by
  obtain⟨b,x,e,hb,hx,_,_⟩:=hs.holds _<|B5 h
  have e':a.eval (.tmp t)= .pointer (some ⟨b,0,none⟩):=e;exact⟨.pointer<|some ⟨b,0+off,none⟩,by simp[execOp,e',YH hf],⟨b,e,by simp⟩,rfl⟩
def O5{k:Nat}(h:look Γ t=some (.ptr t' o))(hf:Ga P T k off=true):B1 P Γ ⟨d,.fieldAddr T (.tmp t) k,ty,pos,af,g⟩ (.ptr t'<|o+off):=
 Di λ_ _ _ a w _ hs=>by
  obtain⟨b,e1,e2⟩:=hs.holds _<|B5 h
  have e':a.eval (.tmp t)= .pointer (some ⟨b,o,none⟩):=e2;exact⟨.pointer<|some ⟨b,o+off,none⟩,by simp[execOp,e',YH hf],⟨b,e1,rfl⟩,rfl⟩
def ajy(hp:BN τ o σ){b:Nat}{E:Ah}{fr:Nat×Nat}(hb:H b=some (.cells cs E fr))(hl:off+τ.n<=cs.size)(ha:τ.agg=true)(hx:τ.ok H (Gp τ.agg ((cs.toList.drop off).take τ.n).toArray)):
  (JX σ).ok H (.pointer<|some ⟨b,off+o,none⟩):=by
 rw[ha] at hx;obtain⟨h1,h2⟩:=hp _ _ hx;simp only[Y6] at h1 h2;have hlen:(List.take τ.n<|List.drop off cs.toList).toArray.size=τ.n:=by simp;omega
 rw[hlen] at h1;refine⟨b,off+o,cs,E,fr,rfl,hb,by omega,?_⟩;have:List.take σ.n (List.drop o<|List.take τ.n<|List.drop off cs.toList)=List.take σ.n (List.drop (off+o) cs.toList):=by
  rw[MA,NJ,FW]
  congr 1
  omega
 simpa[this] using h2
def Lx{k:Nat}(h:Arg Γ x (JX τ))(ha:τ.agg=true)(hp:BN τ off σ)(hf:Ga P T k off=true):B1 P Γ ⟨d,.fieldAddr T x k,ty,pos,af,g⟩ (.val<|JX σ):=
 Di λ_ _ _ a w _ hs=>by
  obtain⟨b,o,cs,E,fr,e,hb,hl,hx⟩:=h.ok hs;exact⟨.pointer<|some ⟨b,o+off,none⟩,by simp[execOp,e,YH hf],ajy hp hb hl ha hx,rfl⟩
def LB(P:C7)(T:Ah)(len sz:Nat):Bool:=
 match P.underlying T with
 |some (.array n e)=>Nat.beq n len&&(match P.info? e with|some i=>Nat.beq i.size sz|none=>false)
 |_=>false
def G7(P:C7)(T:Ah)(sz:Nat):Bool:=
 match P.underlying T with
 |some (.slice e)=>(match P.info? e with|some i=>Nat.beq i.size sz|none=>false)
 |_=>false
def oj(h:LB P T len sz=true):∃e i,P.underlying T=some (.array len e)/\P.info? e=some i/\i.size=sz:=by
 unfold LB at h;split at h
 ·rename_i n e hu;simp only[Bx] at h;obtain⟨h1,h2⟩:=h;have h1:=EG h1;subst h1;split at h2
  ·rename_i i hi;exact⟨e,i,hu,hi,EG h2⟩
  ·cases h2
 ·cases h
def pL(h:G7 P T sz=true):∃e i,P.underlying T=some (.slice e)/\P.info? e=some i/\i.size=sz:=by
 unfold G7 at h;split at h
 ·rename_i e hu;split at h
  ·rename_i i hi;exact⟨e,i,hu,hi,EG h⟩
  ·cases h
 ·cases h
def tw(h:LB P T len sz=true)(b o:Nat)(h0:0<=i)(h1:i<len)(w:AQ):
  (Instr.indexAt T (.pointer<|some ⟨b,o,none⟩)<| .int k i).run P w= .ok (.pointer<|some ⟨b,o+i.toNat*sz,none⟩) w:=by
 obtain⟨e,ii,hu,hi,hs⟩:=oj h;simp[Instr.indexAt,asIntOf,F0 hu,Instr.sureAddr,h0,h1,Go.sizeOf,typeInfo,program,Sem.run,hi,hs,addr_add]
def kn(h:G7 P T sz=true)(b o len cap:Nat)(h0:0<=i)(h1:i<len)(w:AQ):
  (Instr.indexAt T (.slice (some ⟨b,o,none⟩) len cap)<| .int k i).run P w= .ok (.pointer<|some ⟨b,o+i.toNat*sz,none⟩) w:=by
 obtain⟨e,ii,hu,hi,hs⟩:=pL h;simp[Instr.indexAt,asIntOf,F0 hu,h0,h1,Go.sizeOf,typeInfo,program,Sem.run,hi,hs,addr_add]
def vA(h:look Γ t=some (.own T' τ))(hT:LB P T len sz=true)(hi:Arg Γ ix (TI k i))(h0:0<=i)(h1:i<len):
  B1 P Γ ⟨d,.indexAddr T (.tmp t) ix,ty,pos,af,g⟩ (.ptr t<|i.toNat*sz):=
 Di λ_ _ _ a w _ hs=>by
  obtain⟨b,x,e,hb,hx,_,_⟩:=hs.holds _<|B5 h
  have e':a.eval (.tmp t)= .pointer (some ⟨b,0,none⟩):=e;have ei:a.eval ix= .int k i:=hi.ok hs;exact⟨.pointer<|some ⟨b,0+i.toNat*sz,none⟩,by simp[execOp,e',ei,tw hT b 0 h0 h1],⟨b,e,by simp⟩,rfl⟩
def Ox(h:look Γ t=some (.ptr t' o))(hT:LB P T len sz=true)(hi:Arg Γ ix (TI k i))(h0:0<=i)(h1:i<len):
  B1 P Γ ⟨d,.indexAddr T (.tmp t) ix,ty,pos,af,g⟩ (.ptr t'<|o+i.toNat*sz):=
 Di λ_ _ _ a w _ hs=>by
  obtain⟨b,e1,e2⟩:=hs.holds _<|B5 h
  have e':a.eval (.tmp t)= .pointer (some ⟨b,o,none⟩):=e2;have ei:a.eval ix= .int k i:=hi.ok hs;exact⟨.pointer<|some ⟨b,o+i.toNat*sz,none⟩,by simp[execOp,e',ei,tw hT b o h0 h1],⟨b,e1,rfl⟩,rfl⟩
def Fq(sz:Nat)(l:A3 Ty):Prop:=∀τ∈l,τ.n=sz
def KG{sz:Nat}:∀{l:A3 Ty},Fq sz l->CH l=l.length*sz
 |[],_=>by simp
 |τ::l,h=>by
  have h1:=h τ (by simp);have h2:=KG (l:=l) (λx hx=>h x (by simp[hx]));simp[h1,h2,JR];omega
def Fq.take{sz:Nat}{l:A3 Ty}(h:Fq sz l)(i:Nat):Fq sz (l.take i):=λτ ht=>h τ<|QP ht
theorem Jn{α:Type _}{f:α->Ty}(h:∀x,(f x).n=sz)(l:A3 α):Fq sz (l.map f):=by simp_all [Ty.n,Fq]
def agP(h:Arg Γ x (FT l))(hT:G7 P T sz=true)(hu:Fq sz l)(hi:Arg Γ ix (TI k i))(h0:0<=i)(hl:l[i.toNat]? =some σ):
  B1 P Γ ⟨d,.indexAddr T x ix,ty,pos,af,g⟩ (.val<|JX σ):=
 Di λ_ _ _ a w _ hs=>by
  obtain⟨ad,cap,e,_,hx⟩:=h.ok hs;have hlt:=(GD.1 hl).1;obtain⟨b,o,cs,E,fr,e1,hb,hsz,ho⟩:=hx (λe=>by rw[e] at hlt;simp at hlt);subst e1;have ei:a.eval ix= .int k i:=hi.ok hs;have h1:i<l.length:=by omega
  obtain⟨p1,p2⟩:=N7 ho hl;have hc:CH (l.take i.toNat)=i.toNat*sz:=by
   rw[KG<|hu.take _,Dn,EN (by omega)]
  rw[hc] at p1 p2;have hlen:(List.take (CH l)<|List.drop o cs.toList).length=CH l:=by simp;omega
  rw[hlen] at p1;refine⟨.pointer<|some ⟨b,o+i.toNat*sz,none⟩,by simp[execOp,e,ei,kn hT b o l.length cap h0 h1],⟨b,_,cs,E,fr,rfl,hb,by omega,?_⟩,rfl⟩;have:List.take σ.n (List.drop (i.toNat*sz)<|List.take (CH l)<|List.drop o cs.toList)=List.take σ.n (List.drop (o+i.toNat*sz) cs.toList):=by
   rw[MA,NJ,FW]
   congr 1
   omega
  rw[this] at p2;exact p2
inductive AO(Γ:Ctx):A3 CB->A3 Ty->Prop where
 |nil:AO Γ [] []
 |cons {x:CB} {τ:Ty} {xs:A3 CB} {l:A3 Ty} (h:Arg Γ x τ) (r:AO Γ xs l):AO Γ (x::xs) (τ::l)
def AO.ok{xs:A3 CB}{l:A3 Ty}(h:AO Γ xs l){w0:Ae P}{H0:HV}{N:Nat}{a:Act}{w:AQ}{H:HV}(hs:Sat w0 H0 N Γ a w H):Ee H l (xs.map a.eval):=by
 induction h with
 |nil=>rfl
 |cons h _ ih=>exact⟨_,_,rfl,h.ok hs,ih⟩
def Ip:A3 Ty->AN
 |[τ]=> .val τ
 |l=> .LF l
def rz:Res->AN
 | .vs l=>Ip l
 | .fr E sz l=> .buf E sz l
def VQ{Bb:A3 Ty}{v:AR}{B:Ae P}{a:Act}(h:KR H Bb v):(Ip Bb).holds B a w H v:=by
 match Bb,h with
 |[],h=>exact h
 |[_],h=>exact h
 |_::_::_,h=>exact h
def VX{Bb:A3 Ty}:(Ip Bb).free=true:=by
 match Bb with
 |[]=>rfl
 |[_]=>rfl
 |_::_::_=>rfl
def Ow{f:FuncId}(h:GL P f=true)(args:B6 AR)(w:AQ):(callFunc f args).run P w= .ok (.enter f args) w:=by
 unfold GL at h;split at h
 ·rename_i fn hf;simp only[Bx,GW] at h;have hb:fn.body.isNone=false:=by cases hx:fn.body<;>simp[hx] at h⊢
  have h1:fn.name≠ "runtime.NumGoroutine" :=by simpa using h.2
  have h2:fn.body≠none:=by intro e;rw[e] at hb;cases hb
  simp[callFunc,program,Sem.run,hf,h1,h2]
 ·cases h
def Fh{f:FuncId}{xs:A3 CB}{F4:B6 Ah}{args:A3 Ty}{Bb:Res}(hf:E0 P f args Bb)(ha:AO Γ xs args):
  B1 P Γ ⟨d,.call ⟨.value<| .func f,xs.toArray,F4⟩,ty,pos,af,g⟩ (rz Bb):=by
 intro w0 H0 N a w H hs K Q k;unfold Oper.wp;have e:execOp a.eval ⟨d,.call ⟨.value<| .func f,xs.toArray,F4⟩,ty,pos,af,g⟩=callFunc f (#[]++xs.toArray.map a.eval++ #[]):=rfl;rw[e,Ow hf.can,W7];have e2:(#[]++xs.toArray.map a.eval++ #[])=(xs.map a.eval).toArray:=by simp
 rw[e2];refine(hf.run w H _ hs.sub hs.gl<|ha.ok hs).mono ?_;rintro e w' ⟨v,rfl,hb,H',h1,h2,h3⟩;have he:Ext w H w' H':=⟨hb,λr o h=>by rw[h1 r<|HH hs.sub h];exact h,h1,h2⟩;cases Bb with
 |vs l=>exact k v w' H' he (VQ h3)<|λb e=>absurd e<|AN.free_spec (s:=Ip l) VX
 |fr E sz l=>
  obtain⟨xs,k1,k2,k3⟩:=h3;exact k v w' H' he ⟨xs,k1,k2,λb hb=>⟨(k3 b hb).2,.inl<|Ca hs.below.size (k3 b hb).1⟩⟩<|λb e=>(k3 b e).1
def ug{i:TypeInfo}{z:AR}(hi:P.info? T=some i)(hz:i.zero=some z)(w:AQ):(zeroValue T).run P w= .ok z w:=by
 simp[zeroValue,typeInfo,program,Sem.run,hi,hz]
structure Dk(P:C7)(T:Ah)(τ:Ty):Prop where
 run:∀w,∃z,(zeroValue T).run P w= .ok z w/\∀H,τ.ok H z
def FV(z:AR)(h:(P.info? T).bind (·.zero)=some z)(hz:∀H,τ.ok H z):Dk P T τ:=⟨λw=>by
 cases hi:P.info? T with
 |none=>rw[hi] at h;cases h
 |some i=>rw[hi] at h;exact⟨z,ug hi h w,hz⟩⟩
def LO(h:Dk P T τ):B1 P Γ ⟨d,.alloc T,ty,pos,af,g⟩ (.own T τ):=
 Lz λw0 _ _ a w H hs=>by
  obtain⟨z,hr,hz⟩:=h.run w;refine⟨.pointer<|some ⟨w.heap.size,0,none⟩,w.alloc<| .cells z.cells T,H,?_,Ext.alloc hs.sub _,?_,?_⟩
  ·simp[execOp,Instr.alloc,hr,newVar,newRow]
  ·refine⟨w.heap.size,z,rfl,Lc w _,hz H,?_,.inl hs.below.size⟩;cases hh:H w.heap.size with
   |none=>rfl
   |some o=>have:=HH hs.sub hh;omega
  ·rintro b ⟨ad,e,hb⟩;cases e;simp at hb;omega
def aoU(h:Arg Γ x τ):B1 P Γ ⟨d,.box T x,ty,pos,af,g⟩ (.own T τ):=
 Lz λw0 _ _ a w H hs=>by
  refine⟨.pointer<|some ⟨w.heap.size,0,none⟩,w.alloc<| .cells (a.eval x).cells T,H,?_,Ext.alloc hs.sub _,?_,?_⟩
  ·simp[execOp,Instr.box,newVar,newRow]
  ·refine⟨w.heap.size,a.eval x,rfl,Lc w _,h.ok hs,?_,.inl hs.below.size⟩;cases hh:H w.heap.size with
   |none=>rfl
   |some o=>have:=HH hs.sub hh;omega
  ·rintro b ⟨ad,e,hb⟩;cases e;simp at hb;omega
end
section
variable[D:DR]
variable{P:Program}{N:Nat}{ops:Array Oper}{Γ Al:Ctx}{d:Option Tmp}{ty:TypeId}{pos:String}{af:Array Edge}{g:Option (Nat×Bool)}
variable{T:Ah}{x:CB}{T':Ah}{y:CB}{n m:Int}{k:IntKind}{σ:Ty}{t:Nat}{τ:Ty}{w:AQ}{off:Nat}{w0:Ae P}{H0:HV}{a:Act}{H:HV}{w':AQ}{row:A9 Nat}{s:AN}{v:AR}{ρ:Ty}{p:Nat}{Gl:Ty}
def qy{d:Nat}{Γ:Ctx}{p:Nat×AN}(h:p∈del d Γ):p.1≠d/\d∉p.2.By:=YK PA p h
def yD(hs:Sat w0 H0 N Γ a w H)(hg:Ef w w' row)(He:∀b,row=some b->w0.EI b/\H b=none/\∀l,w.heap[b]? ≠some (.deferred l))
 (BE:∀p∈Al,p∈Γ/\∀b,p.2.owns w (Ab a p.1) b->row≠some b):Sat w0 H0 N Al a w' H:=by
 have E6:∀b,b<w.heap.size->row≠some b->w'.heap[b]? =w.heap[b]? :=λb hb hn=>hg.block b hb<|λe=>hn e.symm
 refine Ve (ds:=a.defers) hs (hs.below.LA hg<|λk hk=>(He k hk).1) hg.drawn (λ_ _ _ _=>rfl) hg.size (HV.le.refl _) ?_ ?_ ?_ ?_
 ·intro r o h;rw[E6 r (HH hs.sub h) (λe=>by have:=(He r e).2.1;rw[this] at h;cases h)];exact hs.sub r o h
 ·intro _ b hb Fp;exact⟨E6 b hb (λe=>by have:=Ae.QC (He b e).1;omega),rfl⟩
 ·intro p hp;exact⟨(BE p hp).1,λb hb=>⟨E6 b (AN.J5 (hs.holds p (BE p hp).1) hb).1<|(BE p hp).2 b hb,rfl⟩⟩
 ·exact hs.nd.kept λD _ h1 h2=>⟨by rw[E6 D (lt_of_heap h1)<|λe=>(He D e).2.2 _ h1];exact h1,h2⟩
def Q7(h:Sat w0 H0 N Γ a w H){d:Nat}(hd:d<N)(hf:JT d Γ=true)(hl:d∉s.By)
 (hs:s.holds w0 a w H v)(hfr:∀b,s.owns w v b->∀q∈Γ,¬q.2.owns w (Ab a q.1) b):Sat w0 H0 N ((d,s)::Γ) (a.put (some d) v) w H:=vW h hd hf hl hs hfr
def Ov{b:Nat}{s':AN}(hs:Sat w0 H0 N Γ a w H)(ht:(t,s)∈Γ)(hg:Ef w w' (some b))(hb:w0.EI b)(hob:s.owns w (Ab a t) b)
 (Co:s'.holds w0 a w' H (Ab a t))(LH:∀c,s'.owns w' (Ab a t) c->s.owns w (Ab a t) c\/w.heap.size<=c):Sat w0 H0 N ((t,s')::BF t Γ) a w' H:=by
 obtain⟨h1,h2,o,h3,h4⟩:=AN.J5 (hs.holds _ ht) hob;have other:∀q∈BF t Γ,∀c,s.owns w (Ab a t) c-> ¬q.2.owns w (Ab a q.1) c:=λq hq c hc=>hs.sep _ ht q (DI q hq).1 (λe=>(DI q hq).2 e.symm) c hc
 have IH:Sat w0 H0 N (BF t Γ) a w' H:=by
  refine yD hs hg (λc hc=>by cases hc;exact⟨hb,h2,λl e=>by rw[h3] at e;cases e;exact h4⟩)<|λq hq=>⟨(DI q hq).1,λc hc e=>?_⟩
  cases e;exact other q hq b hob hc
 have back:∀q∈BF t Γ,∀c,q.2.owns w' (Ab a q.1) c->q.2.owns w (Ab a q.1) c:=λq hq c hc=>by
  refine((AN.YZ (w':=w') (H':=H) (hs.holds q (DI q hq).1) ?_).2 c).1 hc;refine⟨hg.size,hg.os,hg.tape,hg.output,hg.drawn,HV.le.refl _,?_,λ_ _ _=>rfl,IH.sub⟩;intro c hc1 Gb;refine hg.block c hc1<|λe=>?_
  cases e;rcases Gb with Gb|Gb
  ·have:=Ae.QC hb;omega
  ·exact other q hq b hob Gb
 refine⟨IH.nd,IH.sz,IH.below,IH.GK,IH.sub,?_,?_,IH.gl⟩
 ·intro q hq;rcases Ai.1 hq with eq|hq
  ·subst eq;exact Co
  ·exact IH.holds q hq
 ·have key:∀q∈BF t Γ,∀c,s'.owns w' (Ab a t) c-> ¬q.2.owns w' (Ab a q.1) c:=λq hq c hc EU=>by
   rcases LH c hc with h|h
   ·exact other q hq c h<|back q hq c EU
   ·have:=(AN.J5 (hs.holds q (DI q hq).1)<|back q hq c EU).1;omega
  intro q hq r hr hne c hc EU;rcases Ai.1 hq with eq|hq<;>rcases Ai.1 hr with er|hr
  ·subst eq;subst er;exact hne rfl
  ·subst eq;exact key r hr c hc EU
  ·subst er;exact key q hq c EU hc
  ·exact IH.sep q hq r hr hne c hc EU
def air(hs:Sat w0 H0 N Γ a w H)(hg:Ef w w' row)(He:∀b,row=some b->w0.EI b/\H b=none)
 {q:Nat×AN}(hq:q∈Γ)(hn:∀b,q.2.owns w (Ab a q.1) b->row≠some b)(c:Nat):q.2.owns w' (Ab a q.1) c↔q.2.owns w (Ab a q.1) c:=by
 refine(AN.YZ (w':=w') (H':=H) (hs.holds q hq) ?_).2 c;refine⟨hg.size,hg.os,hg.tape,hg.output,hg.drawn,HV.le.refl _,?_,λ_ _ _=>rfl,?_⟩
 ·intro c hc1 Gb;refine hg.block c hc1<|λe=>?_
  rcases Gb with Gb|Gb
  ·have:=Ae.QC (He c e.symm).1;omega
  ·exact hn c Gb e.symm
 ·intro r o h;rw[hg.block r (HH hs.sub h) (λe=>by have:=(He r e.symm).2;rw[this] at h;cases h)];exact hs.sub r o h
def Vd{dd:Nat}{s':AN}(hs:Sat w0 H0 N Γ a w H)(ht:(t,s)∈Γ)(hg:Ef w w' row)
 (He:∀b,row=some b->s.owns w (Ab a t) b/\w0.EI b)(DH:dd<N)(hl:dd∉s'.By)(hv:s'.holds w0 a w' H v)(ho:∀b,s'.owns w' v b->s.owns w (Ab a t) b\/w.heap.size<=b):
  Sat w0 H0 N ((dd,s')::del dd (BF t Γ)) (a.put (some dd) v) w' H:=by
 have low:∀b,s.owns w (Ab a t) b->b<w.heap.size/\H b=none/\∃o,w.heap[b]? =some o/\Zk o:=λb h=>AN.J5 (hs.holds _ ht) h
 have sub:∀q∈del dd (BF t Γ),q∈Γ/\∀b,s.owns w (Ab a t) b-> ¬q.2.owns w (Ab a q.1) b:=λq hq=>by
  have h1:=DI q<|MC q hq
  exact⟨h1.1,λb hb=>hs.sep _ ht q h1.1 (λe=>h1.2 e.symm) b hb⟩
 have abf:∀b,row=some b->w0.EI b/\H b=none:=λb h=>⟨(He b h).2,(low b (He b h).1).2.1⟩
 have hn:∀q∈del dd (BF t Γ),∀b,q.2.owns w (Ab a q.1) b->row≠some b:=λq hq b hb e=>(sub q hq).2 b (He b e).1 hb
 have IH:Sat w0 H0 N (del dd<|BF t Γ) a w' H:=by
  refine yD hs hg (λb h=>⟨(He b h).2,(abf b h).2,λl e=>?_⟩)<|λq hq=>⟨(sub q hq).1,hn q hq⟩
  obtain⟨_,_,o,h3,h4⟩:=low b (He b h).1;rw[h3] at e;cases e;exact h4
 refine Q7 IH DH PA hl hv λb hb q hq Kf=>?_
 have Kf:=(air hs hg abf (sub q hq).1 (hn q hq) b).1 Kf;rcases ho b hb with h|h
 ·exact(sub q hq).2 b h Kf
 ·have:=(AN.J5 (hs.holds q (sub q hq).1) Kf).1;omega
def nE(w:AQ):Ef w w none:=⟨⟨rfl,rfl,rfl,BM _,λ_ _ _=>rfl⟩,BM _⟩
def Gv(τ:Ty)(off:Nat)(σ Gl:Ty):Prop:=∀(H:HV) (v x:AR),τ.ok H v->σ.ok H x->off+σ.n<=v.cells.size/\
 ∃x',Gl.ok H x'/\x'.cells=(v.cells.toList.take off++x.cells.toList++v.cells.toList.drop (off+σ.n)).toArray
def Gv.whole(h:σ.n=τ.n):Gv τ 0 σ σ:=λH v x hv hx=>by
 have h1:=(τ.shape hv).size;refine⟨by omega,x,hx,?_⟩;rw[Mo (by simp;omega)];simp
def Gv.agg{l:A3 Ty}{i off:Nat}{σ ρ:Ty}(h:l[i]? =some ρ)(hn:σ.n=ρ.n)(ho:CH (l.take i)=off):Gv (DG l) off σ (DG<|l.set i σ):=by
 rintro H v x ⟨cs,e,ok⟩ hx;subst e;subst ho;obtain⟨p1,_⟩:=N7 ok h;have hp:=Te ok h hn hx;rw[<-hn] at p1 hp;simp only[Ex] at p1;exact⟨p1,.agg _,⟨_,rfl,by simpa[Value.cells] using hp⟩,rfl⟩
def mH{n:Nat}(h:Shape n false v):v.oneCell'=true/\n=1/\v.cells= #[v]:=by
 have h1:=h.size;have h2:=h.cell;have h3:=h.eq;cases v with
 |agg c=>
  exfalso;simp only[Value.cells,Gp] at h2 h3;by_cases hc:0<c.size
  ·simp[hc] at h3;have:=h2 c[0] (by simp);rw[<-h3] at this;simp[Value.oneCell'] at this
  ·simp[U5,hZ<|ZJ hc,undef] at h3
 |tuple c=>have:=h2 (.tuple c) (by simp[Value.cells]);simp[Value.oneCell'] at this
 |_=>exact⟨rfl,by simpa[Value.cells] using h1.symm,rfl⟩
def agG{n:Nat}{agg:Bool}{Kb:A3 AR}(h:Shape n agg (Gp agg Kb.toArray))(hl:Kb.length=n):(Gp agg Kb.toArray).cells=Kb.toArray:=by
 cases agg
 ·obtain⟨_,h2,h3⟩:=mH h
  match Kb,hl.trans h2 with
  |[y],_=>simpa[Gp] using h3
 ·rfl
def Gv.trans{l:A3 Ty}{i o1 o2:Nat}{ρ':Ty}(h:l[i]? =some ρ)(ho:CH (l.take i)=o1)(k:Gv ρ o2 σ ρ')(hn:ρ'.n=ρ.n)(e:o1+o2=off):Gv (DG l) off σ (DG<|l.set i ρ'):=by
 rintro H v x ⟨cs,e',ok⟩ hx;subst e';subst ho;subst e;obtain⟨p1,p2⟩:=N7 ok h;have hlen:cs.toList.length=cs.size:=by simp
 rw[hlen] at p1
 generalize Ll:(List.take ρ.n<|List.drop (CH<|List.take i l) cs.toList)=Kb at p2
 have jA:Kb.length=ρ.n:=by rw[<-Ll];simp;omega
 have ap1:=agG (ρ.shape p2) jA;obtain⟨k1,x',k2,k3⟩:=k H _ x p2 hx;rw[ap1] at k1 k3;simp only[WB,jA] at k1;refine⟨by simp only[Value.cells];omega,.agg _,⟨_,rfl,?_⟩,rfl⟩;have hp:=Te ok h hn k2;rw[k3] at hp;have e1:List.take (CH<|List.take i l) cs.toList++(List.take o2 Kb++x.cells.toList++List.drop (o2+σ.n) Kb)++List.drop (CH (List.take i l)+ρ.n) cs.toList=
   List.take (CH (List.take i l)+o2) cs.toList++x.cells.toList++List.drop (CH (List.take i l)+o2+σ.n) cs.toList:=by
  have t1:List.take (CH (List.take i l)+o2) cs.toList=List.take (CH<|List.take i l) cs.toList++List.take o2 Kb:=by
   rw[List.take_add,<-Ll,NJ,EN (by omega)]
  have t2:List.drop (CH (List.take i l)+o2+σ.n) cs.toList=List.drop (o2+σ.n) Kb++List.drop (CH (List.take i l)+ρ.n) cs.toList:=by
   rw[<-Ll,MA,FW];have:List.drop (CH (List.take i l)+ρ.n) cs.toList=List.drop (ρ.n-(o2+σ.n)) (List.drop (CH (List.take i l)+(o2+σ.n)) cs.toList):=by
    rw[FW];congr 1;omega
   rw[this,OX]
   congr 1;omega
  rw[t1,t2];simp[ID]
 rw[List.toList_toArray] at hp;rw[e1] at hp;exact hp
def Sq{n:Nat}{b:Nat}{cs:B6 AR}{E:Ah}{x:AR}(hT:(P.info? T).map (·.size)=some n)(hn:x.cells.size=n)(hb:w.heap[b]? =some (.cells cs E (0,0)))(hl:off+n<=cs.size)(h1:∀c∈x.cells.toList,c.oneCell'=true):
  (storeVar T ⟨b,off,none⟩ x).run P w= .ok () (w.setRow b (cs.toList.take off++x.cells.toList++cs.toList.drop (off+n)).toArray):=by
 cases hi:P.info? T with
 |none=>rw[hi] at hT;cases hT
 |some i=>
  rw[hi] at hT;simp at hT;have Ez:=run_storeCells_at P b off E x.cells.toList 0 cs w hb (by simp;omega) h1;simp only[Tk,Ex,hn] at Ez;simp[storeVar,Go.sizeOf,typeInfo,program,Sem.run,hi,hT,hn,Ez]
def TZ{n:Nat}{agg:Bool}(h:Bm P T n agg=true):(P.info? T).map (·.size)=some n:=by
 unfold Bm at h;split at h
 ·rename_i i dd hi hu;simp only[Bx] at h;rw[hi];simp[EG h.1.1]
 ·cases h
def xD{Ag:Ctx}(BE:∀q∈Ag,q∈Γ)(hp:look Ag p=some (.ptr t off))(ht:look Ag t=some (.own T' τ))(hx:Arg Ag x σ)(hs:Gv τ off σ Gl)(hT:Bm P T σ.n σ.agg=true):
  Step P N ops ⟨none,.store T (.tmp p) x,ty,pos,af,none⟩ Γ ((t,.own T' Gl)::BF t Γ):=by
 intro w0 H0 a w H BA K Q k;simp only[Region.wanted,if_true];obtain⟨b,v,e,hb,hv,hH,hB⟩:=BA.holds _ (BE _<|B5 ht);obtain⟨b',e1,e2⟩:=BA.holds _ (BE _<|B5 hp);simp only at e e1;rw[e] at e1;cases e1;have ep:a.eval (.tmp p)= .pointer (some ⟨b,off,none⟩):=e2;have I1:=hx.ok<|BA.weaken BE
 have C6:=σ.shape I1;obtain⟨h1,x',h2,h3⟩:=hs H v _ hv I1;have F9:=Sq (P:=P) (TZ hT) C6.size hb h1 C6.cell;rw[<-h3] at F9;unfold Oper.wp;have er:(execOp a.eval ⟨none,.store T (.tmp p) x,ty,pos,af,none⟩).run P w= .ok .skip (w.setRow b x'.cells):=by
  simp[execOp,ep,Instr.storeAt,Instr.sureAddr,F9]
 rw[er,QI];have hg:Ef w (w.setRow b x'.cells) (some b):=Ef.setRow w b _;refine k a _ H<|Ov BA (BE _<|B5 ht) hg hB ⟨_,e,rfl⟩ ⟨b,x',e,Th w b _ _ _ _ hb,h2,hH,hB⟩ λc hc=>?_
 obtain⟨ad,e',hc⟩:=hc;simp only[e] at e';cases e';exact .inl ⟨_,e,hc⟩
def y8(hp:look Γ p=some (.ptr t off))(ht:look Γ t=some (.own T' τ))(hx:Arg Γ x σ)(hs:Gv τ off σ Gl)(hT:Bm P T σ.n σ.agg=true):
  Step P N ops ⟨none,.store T (.tmp p) x,ty,pos,af,none⟩ Γ ((t,.own T' Gl)::BF t Γ):=xD (λ_ h=>h) hp ht hx hs hT
def nV(hp:look Γ p=some (.ptr t off))(ht:look Γ t=some (.own T' τ))(hx:Arg Γ x σ)(hs:Gv τ off σ Gl)(hT:Bm P T σ.n σ.agg=true):
  Pl P N ops Γ ⟨none,.store T (.tmp p) x,ty,pos,af,none⟩ t (.own T' Gl):=λ_ BE=>xD BE hp ht hx hs hT
def uf{Ag:Ctx}(BE:∀q∈Ag,q∈Γ)(ht:look Ag t=some (.own T' τ))(hx:Arg Ag x σ)(hn:σ.n=τ.n)(hT:Bm P T σ.n σ.agg=true):
  Step P N ops ⟨none,.store T (.tmp t) x,ty,pos,af,none⟩ Γ ((t,.own T' σ)::BF t Γ):=by
 intro w0 H0 a w H BA K Q k;simp only[Region.wanted,if_true];obtain⟨b,v,e,hb,hv,hH,hB⟩:=BA.holds _ (BE _<|B5 ht);have ep:a.eval (.tmp t)= .pointer (some ⟨b,0,none⟩):=e;have I1:=hx.ok<|BA.weaken BE
 have C6:=σ.shape I1;obtain⟨h1,x',h2,h3⟩:=Gv.whole hn H v _ hv I1;have F9:=Sq (P:=P) (TZ hT) C6.size hb h1 C6.cell;rw[<-h3] at F9;unfold Oper.wp;have er:(execOp a.eval ⟨none,.store T (.tmp t) x,ty,pos,af,none⟩).run P w= .ok .skip (w.setRow b x'.cells):=by
  simp[execOp,ep,Instr.storeAt,Instr.sureAddr,F9]
 rw[er,QI];have hg:Ef w (w.setRow b x'.cells) (some b):=Ef.setRow w b _;refine k a _ H<|Ov BA (BE _<|B5 ht) hg hB ⟨_,e,rfl⟩ ⟨b,x',e,Th w b _ _ _ _ hb,h2,hH,hB⟩ λc hc=>?_
 obtain⟨ad,e',hc⟩:=hc;simp only[e] at e';cases e';exact .inl ⟨_,e,hc⟩
def afK(ht:look Γ t=some (.own T' τ))(hx:Arg Γ x σ)(hn:σ.n=τ.n)(hT:Bm P T σ.n σ.agg=true):
  Step P N ops ⟨none,.store T (.tmp t) x,ty,pos,af,none⟩ Γ ((t,.own T' σ)::BF t Γ):=uf (λ_ h=>h) ht hx hn hT
def aex(ht:look Γ t=some (.own T' τ))(hx:Arg Γ x σ)(hn:σ.n=τ.n)(hT:Bm P T σ.n σ.agg=true):
  Pl P N ops Γ ⟨none,.store T (.tmp t) x,ty,pos,af,none⟩ t (.own T' σ):=λ_ BE=>uf BE ht hx hn hT
def IA{op:BinOp}(hx:Arg Γ x σ)(hy:Arg Γ y τ)
 (h:∀H u v,σ.ok H u->τ.ok H v->∀w:AQ,(∀r o,H r=some o->w.heap[r]? =some o)->∃z,(do eqGuard op T x y u v;binOp op T u v:Sem AR).run P w= .ok z w/\ρ.ok H z):B1 P Γ ⟨d,.binOp op T x y T',ty,pos,af,g⟩ (.val ρ):=
 Di λ_ _ _ a w H hs=>by
  obtain⟨z,h1,h2⟩:=h H _ _ (hx.ok hs) (hy.ok hs) w hs.sub;refine⟨z,?_,h2,rfl⟩;have e:execOp a.eval ⟨d,.binOp op T x y T',ty,pos,af,g⟩=(do let z<-(do eqGuard op T x y (a.eval x) (a.eval y);binOp op T (a.eval x) (a.eval y):Sem AR);pure (.value z)):=rfl;rw[e,E4,h1]
  rfl
def Ml(hx:Arg Γ x (TI k m))(hy:Arg Γ y (TI k n)):B1 P Γ ⟨d,.binOp .add T x y T',ty,pos,af,g⟩ (.val<|TI k<|k.wrap<|m+n):=
 IA hx hy λH u v hu hv w _=>by
  cases hu;cases hv;exact⟨_,by simp[eqGuard,binOp,Op.intArith],rfl⟩
def PT(hx:Arg Γ x (TI k m))(hy:Arg Γ y (TI k n)):B1 P Γ ⟨d,.binOp .sub T x y T',ty,pos,af,g⟩ (.val<|TI k<|k.wrap<|m-n):=
 IA hx hy λH u v hu hv w _=>by
  cases hu;cases hv;exact⟨_,by simp[eqGuard,binOp,Op.intArith],rfl⟩
def NR(hx:Arg Γ x (TI k m))(hy:Arg Γ y (TI k n)):B1 P Γ ⟨d,.binOp .mul T x y T',ty,pos,af,g⟩ (.val<|TI k<|k.wrap<|m*n):=
 IA hx hy λH u v hu hv w _=>by
  cases hu;cases hv;exact⟨_,by simp[eqGuard,binOp,Op.intArith],rfl⟩
def aae(hx:Arg Γ x (TI k m))(hy:Arg Γ y (TI k n))(h:n≠0):B1 P Γ ⟨d,.binOp .quo T x y T',ty,pos,af,g⟩ (.val<|TI k<|k.wrap<|m.tdiv n):=
 IA hx hy λH u v hu hv w _=>by
  cases hu;cases hv;exact⟨_,by simp[eqGuard,binOp,Op.intDiv,h],rfl⟩
def aoL(hx:Arg Γ x (TI k m))(hy:Arg Γ y (TI k n))(h:n≠0):B1 P Γ ⟨d,.binOp .rem T x y T',ty,pos,af,g⟩ (.val<|TI k<|m.tmod n):=
 IA hx hy λH u v hu hv w _=>by
  cases hu;cases hv;exact⟨_,by simp[eqGuard,binOp,Op.intDiv,h],rfl⟩
def Ci(hx:Arg Γ x (TI k m))(hy:Arg Γ y (TI k n)):B1 P Γ ⟨d,.binOp .lss T x y T',ty,pos,af,g⟩ (.val<|Ay<|decide<|m<n):=
 IA hx hy λH u v hu hv w _=>by
  cases hu;cases hv;exact⟨_,by simp[eqGuard,binOp,Op.intCmp],rfl⟩
def QY(hx:Arg Γ x (TI k m))(hy:Arg Γ y (TI k n)):B1 P Γ ⟨d,.binOp .leq T x y T',ty,pos,af,g⟩ (.val<|Ay<|decide<|m<=n):=
 IA hx hy λH u v hu hv w _=>by
  cases hu;cases hv;exact⟨_,by simp[eqGuard,binOp,Op.intCmp],rfl⟩
def CF(hx:Arg Γ x (TI k m))(hy:Arg Γ y (TI k n)):B1 P Γ ⟨d,.binOp .gtr T x y T',ty,pos,af,g⟩ (.val<|Ay<|decide<|n<m):=
 IA hx hy λH u v hu hv w _=>by
  cases hu;cases hv;exact⟨_,by simp[eqGuard,binOp,Op.intCmp],rfl⟩
def HX(hx:Arg Γ x (TI k m))(hy:Arg Γ y (TI k n)):B1 P Γ ⟨d,.binOp .geq T x y T',ty,pos,af,g⟩ (.val<|Ay<|decide<|n<=m):=
 IA hx hy λH u v hu hv w _=>by
  cases hu;cases hv;exact⟨_,by simp[eqGuard,binOp,Op.intCmp],rfl⟩
def Cg(hx:Arg Γ x (TI k m))(hy:Arg Γ y (TI k n)):B1 P Γ ⟨d,.binOp .eql T x y T',ty,pos,af,g⟩ (.val<|Ay<|decide<|m=n):=
 IA hx hy λH u v hu hv w _=>by
  cases hu;cases hv;refine⟨.bool<|m==n,by simp[eqGuard,binOp,Op.intCmp],?_⟩;show _=_
  congr 1
def CR(hx:Arg Γ x (TI k m))(hy:Arg Γ y (TI k n)):B1 P Γ ⟨d,.binOp .neq T x y T',ty,pos,af,g⟩ (.val<|Ay<| !decide (m=n)):=
 IA hx hy λH u v hu hv w _=>by
  cases hu;cases hv;refine⟨.bool<|m !=n,by simp[eqGuard,binOp,Op.intCmp],?_⟩;show _=_
  congr 1
def aoS{m n:ByteArray}(hx:Arg Γ x (Sl m))(hy:Arg Γ y (Sl n)):B1 P Γ ⟨d,.binOp .eql T x y T',ty,pos,af,g⟩ (.val<|Ay<|m.toList==n.toList):=
 IA hx hy λH u v hu hv w _=>by
  cases hu;cases hv;exact⟨_,by simp[eqGuard,binOp,Op.stringOp],rfl⟩
def aoM{m n:ByteArray}(hx:Arg Γ x (Sl m))(hy:Arg Γ y (Sl n)):B1 P Γ ⟨d,.binOp .neq T x y T',ty,pos,af,g⟩ (.val<|Ay<| !(m.toList==n.toList)):=
 IA hx hy λH u v hu hv w _=>by
  cases hu;cases hv;exact⟨_,by simp[eqGuard,binOp,Op.stringOp],rfl⟩
def Wx(P:C7)(T:Ah):Bool:=match P.underlying T with|some .bool=>true|_=>false
def aoT{m n:Bool}(hT:Wx P T=true)(hx:Arg Γ x (Ay m))(hy:Arg Γ y (Ay n)):B1 P Γ ⟨d,.binOp .eql T x y T',ty,pos,af,g⟩ (.val<|Ay<|m==n):=
 IA hx hy λH u v hu hv w _=>by
  cases hu;cases hv;have hu:P.underlying T=some .bool:=by
   unfold Wx at hT;split at hT
   ·assumption
   ·cases hT
  refine⟨.bool<|m==n,?_,rfl⟩;have e:(Op.equal T (.bool m)<| .bool n).run P w= .ok (m==n) w:=run_equalIn_bool w 9999 T m n hu;simp[eqGuard,binOp,e]
def DU{b:Bool}(hx:Arg Γ x (Ay b)):B1 P Γ ⟨d,.unOp .not T x,ty,pos,af,g⟩ (.val<|Ay<| !b):=
 Di λ_ _ _ a w H hs=>by
  have e:a.eval x= .bool b:=hx.ok hs;exact⟨_,by simp[execOp,e,Op.unary],rfl,rfl⟩
def aaf(hx:Arg Γ x (TI k n)):B1 P Γ ⟨d,.unOp .neg T x,ty,pos,af,g⟩ (.val<|TI k<|k.wrap<|0-n):=
 Di λ_ _ _ a w H hs=>by
  have e:a.eval x= .int k n:=hx.ok hs;exact⟨_,by simp[execOp,e,Op.unary,Op.intArith],rfl,rfl⟩
def DX(n:Int):Prop:= -9223372036854775808<=n/\n<=9223372036854775807
def wrap_i64(h:DX n):IntKind.i64.wrap n=n:=by
 exact IntWalk.i64_in n h
def U64(n:Int):Prop:=0<=n/\n<18446744073709551616
def wrap_u64(h:U64 n):IntKind.u64.wrap n=n:=by
 unfold U64 at h;exact IntWalk.u64_in n (by omega)
def amR(hx:Arg Γ x (TI .i64 m))(hy:Arg Γ y (TI .i64 n))(h:DX (m+n)):B1 P Γ ⟨d,.binOp .add T x y T',ty,pos,af,g⟩ (.val<|TI .i64<|m+n):=by
 have:=Ml (P:=P) (d:=d) (ty:=ty) (pos:=pos) (af:=af) (g:=g) (T:=T) (T':=T') hx hy;rwa [wrap_i64 h] at this
def amI(hx:Arg Γ x (TI .i64 m))(hy:Arg Γ y (TI .i64 n))(h:DX (m-n)):B1 P Γ ⟨d,.binOp .sub T x y T',ty,pos,af,g⟩ (.val<|TI .i64<|m-n):=by
 have:=PT (P:=P) (d:=d) (ty:=ty) (pos:=pos) (af:=af) (g:=g) (T:=T) (T':=T') hx hy;rwa [wrap_i64 h] at this
def amO(hx:Arg Γ x (TI .i64 m))(hy:Arg Γ y (TI .i64 n))(h:DX (m*n)):B1 P Γ ⟨d,.binOp .mul T x y T',ty,pos,af,g⟩ (.val<|TI .i64<|m*n):=by
 have:=NR (P:=P) (d:=d) (ty:=ty) (pos:=pos) (af:=af) (g:=g) (T:=T) (T':=T') hx hy;rwa [wrap_i64 h] at this
def amJ(hx:Arg Γ x (TI .i64 m))(hy:Arg Γ y (TI .i64 n))(hn:n≠0)(h:DX (m.tdiv n)):B1 P Γ ⟨d,.binOp .quo T x y T',ty,pos,af,g⟩ (.val<|TI .i64<|m.tdiv n):=by
 have:=aae (P:=P) (d:=d) (ty:=ty) (pos:=pos) (af:=af) (g:=g) (T:=T) (T':=T') hx hy hn;rwa [wrap_i64 h] at this
def amN(hx:Arg Γ x (TI .i64 n))(h:DX (-n)):B1 P Γ ⟨d,.unOp .neg T x,ty,pos,af,g⟩ (.val<|TI .i64<| -n):=by
 have:=aaf (P:=P) (d:=d) (ty:=ty) (pos:=pos) (af:=af) (g:=g) (T:=T) hx;rwa [Int.zero_sub,wrap_i64 h] at this
end
end Trn
