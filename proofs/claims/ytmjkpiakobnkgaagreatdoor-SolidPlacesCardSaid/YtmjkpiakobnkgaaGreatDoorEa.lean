/- Part of SolidPlaces. -/
import Derived.WalkKit
import Derived.Orders
import Derived.RangeFuncIn
import Derived.RangeFuncRecord
import Derived.RangeFuncLeaves
import Derived.RangeFuncSeq
import Derived.Scope
import Derived.Shelf.Strings.Builder1
set_option maxRecDepth 100000
set_option maxHeartbeats 20000000
set_option linter.all false
open Go Go.RowKit Go.Proofs
namespace Trn
section
variable{p:Prop}
def Aq:= @of_decide_eq_true
def Ak:= @List.mem_cons
def B1:= @decide_eq_true
def BX:= @of_decide_eq_false
def Bg:= @List.mem_cons_of_mem
def CB:= @Classical.byContradiction
def BL:= @List.length_map
def B4:= @List.mem_map
def Av:= @cond_false
def Bb:= @decide_eq_false
def Bi:= @List.mem_append
def Bq:= @Bool.and_eq_true
def Ce:= @List.take_of_length_le
def BJ:= @Nat.le_refl
def CL:= @Int.toNat_natCast
def Cs:= @Nat.le_of_ble_eq_true
def BF:= @cond_true
def CW:= @List.mem_singleton
def Ca:= @List.mem_cons_self
def E7:= @Int.mul_le_mul_of_nonneg_left
def DD:= @List.length_append
def DX:= @Nat.eq_of_beq_eq_true
def EP:= @List.getElem?_eq_some_iff
def CA:= @Nat.le_trans
def EI:= @Int.eq_ofNat_of_zero_le
def DH:= @Go.Result.andThen_ok
def DC:= @List.all_eq_true
def Cr:= @Rat.mul_nonneg
def Dd:= @List.length_take
def DP:= @List.length_cons
def FT:= @List.getElem?_eq_getElem
def EH:= @Int.natAbs_natCast
def En:= @Array.length_toList
def Ds:= @Nat.min_eq_left
def G2:= @List.length_singleton
def Cy:= @Int.mul_add
def E2:= @Option.some.inj
def Hk:= @List.eq_nil_of_length_eq_zero
def EG:= @List.mem_filter
def DS:= @Go.Sem.run_bind
def HD:= @List.getD_eq_getElem?_getD
def F6:= @Bool.not_eq_true'
def Fq:= @List.mem_append_left
def FA:= @Int.mul_left_comm
def Gm:= @decide_eq_false_iff_not
def F5:= @decide_eq_decide
def Dr:= @Int.le_of_lt
def G1:= @List.pairwise_append
def Fh:= @List.pairwise_cons
def Ee:= @List.drop_drop
def GR:= @Nat.ble_eq_true_of_le
def Em:= @Nat.mul_le_mul
def EV:= @Int.mul_assoc
def G0:= @decide_eq_true_iff
def EF:= @Rat.le_of_lt
def Fp:= @List.getElem?_map
def EO:= @Int.mul_comm
def Fz:= @List.append_assoc
def HC:= @List.mem_of_getElem?
def Kf:= @Int.mul_le_mul_of_nonneg_right
def EU:= @Nat.zero_le
def K5:= @List.getElem?_append_right
def Ed:= @Rat.mul_pos
def Fy:= @List.nil_append
def Fx:= @Rat.mul_eq_zero
def El:= @Rat.le_refl
def K4:= @List.getElem?_append_left
def Ie:= @Bool.or_eq_false_iff
def I6:= @Nat.lt_of_lt_of_le
def JA:= @Nat.mul_le_mul_right
def J9:= @Nat.pow_le_pow_right
def Hj:= @List.length_drop
def HB:= @List.append_nil
def J8:= @Int.emod_lt_of_pos
def Ke:= @List.drop_of_length_le
def K3:= @Int.ofNat_eq_natCast
def G8:= @Nat.lt_or_ge
def Kd:= @List.length_replicate
def J7:= @List.pairwise_map
def I5:= @List.map_append
def Jb:= @Nat.eq_zero_or_pos
def I4:= @Int.natAbs_mul
def GQ:= @Int.add_mul
def Ja:= @List.getElem_mem
def JZ:= @List.mem_flatMap
def J6:= @List.length_set
def J5:= @Int.ediv_nonneg
def Ic:= @Go.run_underlying
def I3:= @Bool.true_and
def MK:= @List.take_append_drop
def MJ:= @Int.emod_add_mul_ediv
def JY:= @Int.emod_nonneg
def J4:= @Int.mul_nonneg
def H9:= @Int.one_mul
def I2:= @Go.Sem.run_pure
def Hz:= @getElem!_pos
def LL:= @List.filter_append
def LK:= @Rat.div_mul_cancel
def JX:= @Go.heap_alloc_new
def NP:= @Array.getElem?_toList
def Iw:= @Nat.add_assoc
def QP:= @Array.getElem?_eq_some_iff
def Iv:= @Prod.mk.injEq
def Jy:= @List.drop_take
def JT:= @List.map_cons
def KV:= @Rat.num_eq_zero
def LC:= @List.drop_append
def QO:= @List.Pairwise.imp_of_mem
def SX:= @Array.getD_eq_getD_getElem?
def IX:= @Nat.add_mul
def M8:= @Rat.divInt_eq_div
def M7:= @List.flatMap_cons
def OL:= @List.mem_of_mem_take
def OK:= @Prod.ext_iff
def Iu:= @Nat.one_mul
def SV:= @List.drop_eq_getElem_cons
def QN:= @List.mem_append_right
def Jw:= @Nat.mul_comm
def M6:= @Go.Oper.upon_value
def JS:= @Int.mul_one
def SU:= @List.pairwise_singleton
def M5:= @List.take_take
def M4:= @Bool.false_and
def NC:= @Option.map_some
def YJ:= @Rat.mul_le_mul_of_nonneg_right
def SS:= @List.contains_iff_mem
def SR:= @Array.getElem?_modify
def SQ:= @List.mem_iff_getElem?
def OJ:= @List.cons_append
def LB:= @List.map_map
def OI:= @List.nil_sublist
def M3:= @List.all_cons
def KU:= @Nat.pow_add
def Jv:= @bne_iff_ne
def SO:= @List.mem_of_mem_drop
def NB:= @List.drop_zero
def NA:= @Int.mul_le_mul
def Ut:= @List.sublist_append_iff
def QM:= @List.nodup_append
def OH:= @Bool.or_eq_true
def SN:= @List.length_pos_iff
def Us:= @List.getElem?_set_self
def Ur:= @Int.sign_eq_one_of_pos
def QL:= @List.not_mem_nil
def QK:= @Nat.mod_eq_of_lt
def QJ:= @List.drop_length
def QI:= @Int.ediv_le_self
def SM:= @Bool.false_eq_true
def OG:= @List.mem_range
def OF:= @Go.Oper.upon_skip
def SK:= @List.getElem?_drop
def Uq:= @List.length_filter_le
def YI:= @List.pairwise_iff_getElem
def YH:= @List.sublist_append_right
def YG:= @List.exists_mem_of_ne_nil
def N9:= @Nat.zero_add
def N8:= @Nat.add_comm
def QH:= @Int.natCast_mul
def QG:= @Int.mul_ne_zero
def SJ:= @Int.emod_eq_of_lt
def YF:= @Go.World.putObj_heap_other
def SI:= @Nat.le_add_right
def SH:= @List.filter_cons
def M1:= @Nat.mod_lt
def N7:= @Nat.log2_lt
def N6:= @Rat.div_def
def Up:= @List.getElem?_take
def Uo:= @Bool.not_eq_false'
def ek:= @Int.gcd_pos_of_ne_zero_left
def SG:= @List.length_nil
def YE:= @Int.ediv_lt_of_lt_mul
def SF:= @Rat.num_intCast
def SE:= @Bool.eq_iff_iff
def eh:= @Array.toList_setIfInBounds
def eX:= @Int.sign_eq_neg_one_of_neg
def Un:= @List.any_eq_false
def Um:= @decide_eq_true_eq
def Ul:= @List.ext_getElem?
def Uk:= @Int.lt_trichotomy
def N5:= @beq_iff_eq
def eT:= @Array.getElem?_eq_getElem
def eS:= @Int.lt_of_mul_lt_mul_left
def OE:= @Nat.le_succ
def Uj:= @List.take_append
def QF:= @Nat.le_of_lt
def QE:= @Nat.succ_mul
def QD:= @Nat.gcd_comm
def Ui:= @List.isEmpty_iff
def QC:= @Nat.pow_succ
def YD:= @List.take_replicate
def YC:= @Nat.mul_le_mul_left
def SD:= @Bool.false_or
def Uh:= @Go.Oper.upon_enter
def Ug:= @List.nodup_cons
def Uf:= @Array.size_ofFn
def Ue:= @Rat.den_intCast
def YB:= @List.append_of_mem
def Ud:= @List.any_append
def eQ:= @Array.getElem?_eq_none
def QB:= @Rat.inv_pos
def eP:= @List.length_eq_one_iff
def YA:= @List.Sublist.refl
def Uc:= @List.drop_left
def SC:= @Nat.add_zero
def SB:= @List.map_set
def eN:= @Array.getElem?_append
def SA:= @Int.mul_zero
def Ub:= @Rat.mkRat_self
def eL:= @List.pairwise_flatMap
def eK:= @List.eq_nil_or_concat
def Y9:= @Option.getD_some
def Y8:= @List.any_eq_true
def Y7:= @Nat.le_of_not_lt
def Y6:= @Go.Lib.cell_of_heap
def eJ:= @BitVec.ofInt_natCast
def Y5:= @List.append_inj'
def pS:= @List.map_take
def S9:= @Go.setRow_heap
def S7:= @Int.mul_sub
def eI:= @List.take_succ_cons
def eG:= @List.map_congr_left
def eF:= @List.drop_set_of_lt
def eE:= @beq_eq_false_iff_ne
def pR:= @List.getElem?_zip_eq_some
def Y4:= @Bool.decide_and
def eC:= @List.map_replicate
def Ua:= @Int.add_zero
def dz:= @BitVec.toNat_ofNat
def pQ:= @Int.mul_ediv_cancel_left
def dx:= @Rat.sub_eq_add_neg
def dr:= @Rat.mul_inv_cancel
def Y3:= @Bool.and_false
def dq:= @List.size_toArray
def pP:= @Go.World.putObj_heap_same
def Y2:= @Bool.or_false
def dm:= @Int.sign_neg_iff
def Y1:= @List.map_nil
def Y0:= @Bool.true_or
def di:= @List.foldl_cons
def pO:= @List.contains_eq_mem
def pN:= @List.getElem?_set_ne
def dh:= @List.all_append
def Xz:= @Rat.le_total
def Xy:= @Rat.le_trans
def df:= @UInt8.toNat_inj
def Xx:= @or_and_right
def dc:= @Rat.intCast_inj
def pM:= @Nat.pow_le_pow_left
def db:= @List.take_left
def da:= @Rat.num_divInt
def dZ:= @Rat.den_divInt
def dY:= @Int.natAbs_neg
def Xw:= @Int.sub_mul
def Xv:= @Nat.pow_pos
def UZ:= @Go.wpIn_mono
def dX:= @Bool.and_true
def dW:= @Bool.not_true
def pL:= @Int.natAbs_add_le
def dU:= @Nat.zero_mul
def pK:= @Nat.sub_self
def BO(h:p:=by dsimp only;omega):p:=h
def Co(h:p:=by simp;omega):p:=h
def IK(h:p:=by decide):p:=h
def Dn(h:p:=by rfl):p:=h
theorem AK(h:p:=by grind):p:=h
def AO(h:p:=by simp):p:=h
def A4(h:p:=by omega):p:=h
def A6{α:Sort _}{a b:α}(h:a=b:=by kernel_rfl):a=b:=h
end
abbrev A3:=List
abbrev A9:=Option
abbrev AS:=World
abbrev AW:=Value
abbrev C9:=Operand
abbrev Ap:=TypeId
abbrev Bz:=Program
abbrev B9:=Array
abbrev HV:=Nat->A9 Obj
class DR where
 on:Bool
def DR.m[D:DR](w:AS):Nat:=cond D.on w.drawn 0
abbrev DR.strict:DR:=⟨true⟩
instance DR.lax:DR:=⟨false⟩
abbrev Fe[D:DR](w w':AS):Prop:=DR.m w<=DR.m w'
theorem Fe.of[D:DR]{w w':AS}(h:w.drawn<=w'.drawn):Fe w w':=by
 unfold Fe DR.m;cases D.on
 .grind
 .exact h
class aau[D:DR]:Prop where
 off:D.on=false
instance: @aau DR.lax:= @aau.mk DR.lax rfl
def HV.le(H H':HV):Prop:=∀r o,H r=some o->H' r=some o
def HV.le.refl(H:HV):HV.le H H:=λ_ _ h=>h
def HV.le.trans{A B C:HV}(h:HV.le A B)(k:HV.le B C):HV.le A C:=λr o x=>k r o<|h r o x
def ah:B9 AW:=((List.range 20).map λi=>Value.int .u64<|10^i).toArray
def Qb(P:Bz)(T:Ap)(o:A9 Obj):Prop:=match P.underlying T with|some (.int k)=>∃m E fr,o=some (.cells #[.int k m] E fr)|some (.array 20 _)=>∃E fr,o=some (.cells ah E fr)|_=>True
def JD(P:Bz)(H:HV):Prop:=∀g T,(P.globals[g]?).map (·.type)=some T->Qb P T (H g)
def JD.mono{P:Bz}{H H':HV}(h:HV.le H H')(k:JD P H):JD P H':=λg T e=>by
 have:=k g T e;unfold Qb at this⊢;split
 .rename_i hu;rw[hu] at this;let⟨m,E,fr,e⟩:=this;exact⟨m,E,fr,h _ _ e⟩
 .rename_i hu;rw[hu] at this;let⟨E,fr,e⟩:=this;exact⟨E,fr,h _ _ e⟩
 .trivial
structure Ah(P:Bz) where
 w:AS
 X:Nat->Prop
 rd:A9 Nat
 Gy:Bool
 ds:A3 Deferred
 lo:Nat
 ab6:lo<=w.heap.size
 aqQ:∀k,X k->lo<=k
section
variable{P:Program}
def IJ:Nat->Prop:=λ_=>False
def Ah.call(P:Bz)(w:AS):Ah P:=⟨w,IJ,none,false,[],w.heap.size,BJ _,λ_ h=>h.elim⟩
def Ah.n(b:Ah P):Nat:=b.w.heap.size
def Ah.Da(b:Ah P)(k:Nat):Prop:=b.n<=k\/b.X k
def Ah.OB{b:Ah P}{k:Nat}(h:b.Da k):b.lo<=k:=h.elim (λh=>CA b.ab6 h)<|b.aqQ k
def Ah.lo_le{b:Ah P}:b.lo<=b.n:=b.ab6
end
section
variable{P:Program}
variable[D:DR]
variable{w:AS}{b:Ah P}
structure Ea(n:Nat)(w w':AS):Prop extends Below n w w' where
 drawn:Fe w w'
structure Dw(w w':AS)(row:A9 Nat):Prop extends w.grownBy w' row where
 drawn:Fe w w'
def Ea.refl(n:Nat)(w:AS):Ea n w w:=⟨Below.refl _ _,BJ _⟩
def Ea.alloc{w:AS}(o:Obj):Ea w.heap.size w (w.alloc o):=⟨(Below.refl _ _).alloc (BJ _) _,BJ _⟩
def Dw.setRow(w:AS)(b:Nat)(cs:B9 AW):Dw w (w.setRow b cs) (some b):=⟨⟨rfl,rfl,rfl,by simp,λk _ a=>setRow_other w b k _ (λe=>a (by rw[e]))⟩,BJ _⟩
structure Kept(b:Ah P)(w:AS):Prop where
 os:w.os=b.w.os
 tape:w.tape=b.w.tape
 output:w.output=b.w.output
 drawn:Fe b.w w
 size:b.n<=w.heap.size
 block:b.Gy=false->∀k,k<b.n-> ¬b.X k->w.heap[k]? =b.w.heap[k]?
def Kept.step{w':AS}(h:Kept b w)(k:Ea w.heap.size w w'):Kept b w':=⟨k.os.trans h.os,k.tape.trans h.tape,k.output.trans h.output,CA h.drawn k.drawn,CA h.size k.size,λa i hi c=>(k.block i<|I6 hi h.size).trans<|h.block a i hi c⟩
def Kept.JF{w':AS}{a:A9 Nat}(h:Kept b w)(g:Dw w w' a)(f:∀k,a=some k->b.Da k):Kept b w':=
 ⟨g.os.trans h.os,g.tape.trans h.tape,g.output.trans h.output,CA h.drawn g.drawn,CA h.size g.size,λj i hi c=>(g.block i (I6 hi h.size) (λe=>by
  rcases f i e.symm with d|d
  .omega
  .exact c d)).trans<|h.block j i hi c⟩
def Kept.below(h:Kept b w)(a:b.X=IJ)(c:b.Gy=false):Ea b.w.heap.size b.w w:=⟨⟨h.os,h.tape,h.output,h.size,λk d=>h.block c k d (by rw[a];exact λh=>h)⟩,h.drawn⟩
end
section
variable{P:Program}
variable{H:HV}{v:AW}{H':HV}
def grow(H:HV)(w w':AS):HV:=λr=>if r<w.heap.size then H r else w'.heap[r]?
def Fc:Bool->B9 AW->AW
 |true,cs=> .agg cs|false,cs=>cs.getD 0 undef
structure Shape(n:Nat)(agg:Bool)(v:AW):Prop where
 size:v.cells.size=n
 cell:∀c∈v.cells.toList,c.oneCell'=true
 eq:v=Fc agg v.cells
def Shape.one(h:v.oneCell'=true):Shape 1 false v:=by
 have a:v.cells= #[v]:=by cases v<;>first|rfl|simp[Value.oneCell'] at h
 refine⟨by simp[a],by simp[a,h],by simp[a,Fc]⟩
structure Ty where
 n:Nat
 agg:Bool
 ok:HV->AW->Prop
 mono:∀{H H':HV} {v:AW},HV.le H H'->ok H v->ok H' v
 shape:∀{H:HV} {v:AW},ok H v->Shape n agg v
def TEq(v:AW)(h:v.oneCell'=true):Ty where
 n:=1
 agg:=false
 ok:=λ_ x=>x=v
 mono:=λ_ h=>h
 shape:=λe=>by subst e;exact Shape.one h
def TI(k:IntKind)(n:Int):Ty:=TEq (.int k n) rfl
def Az(b:Bool):Ty:=TEq (.bool b) rfl
def R4(s:ByteArray):Ty:=TEq (.string s) rfl
@[simp] theorem qq{k:IntKind}{n:Int}:(TI k n).ok H v↔v= .int k n:=Iff.rfl
@[simp] theorem ass{b:Bool}:(Az b).ok H v↔v= .bool b:=Iff.rfl
@[simp] theorem ast{b:ByteArray}:(R4 b).ok H v↔v= .string b:=Iff.rfl
def Cx(H:HV):A3 Ty->A3 AW->Prop
 |[],cs=>cs=[]|τ::l,cs=>∃v rest,cs=v.cells.toList++rest/\τ.ok H v/\Cx H l rest
def C7(l:A3 Ty):Nat:=(l.map (·.n)).sum
@[simp] theorem agq:C7 []=0:=rfl
@[simp] theorem lH(τ:Ty)(l:A3 Ty):C7 (τ::l)=τ.n+C7 l:=by simp[C7]
def O3{H H':HV}(h:HV.le H H'):∀{l:A3 Ty} {cs:A3 AW},Cx H l cs->Cx H' l cs
 |[],_,e=>e|_::_,_,⟨v,rest,e,hv,hr⟩=>⟨v,rest,e,Ty.mono _ h hv,O3 h hr⟩
def KT{H:HV}:∀{l:A3 Ty} {cs:A3 AW},Cx H l cs->cs.length=C7 l
 |[],_,e=>by subst e;rfl
 |τ::l,_,⟨v,rest,e,hv,hr⟩=>by subst e;have:=KT hr;have a:=(τ.shape hv).size;simp[this,a]
def Pv{H:HV}:∀{l:A3 Ty} {cs:A3 AW},Cx H l cs->∀c∈cs,c.oneCell'=true
 |[],_,e=>by subst e;simp
 |τ::l,_,⟨v,rest,e,hv,hr⟩=>by
  subst e;intro c a;rcases Bi.1 a with h|h
  .exact(τ.shape hv).cell c h
  .exact Pv hr c h
def Pf{H:HV}:∀{l:A3 Ty} {cs:A3 AW} {a:A3 Ty} {c:A3 AW},Cx H l cs->Cx H a c->Cx H (l++a) (cs++c)
 |[],_,_,_,e,h=>by subst e;simpa using h
 |_::_,_,_,_,⟨v,rest,e,hv,hr⟩,h=>by subst e;exact⟨v,_,by simp,hv,Pf hr h⟩
def L3{H:HV}:∀{l:A3 Ty} {cs:A3 AW} {i:Nat} {τ:Ty},Cx H l cs->l[i]? =some τ->C7 (l.take i)+τ.n<=cs.length/\τ.ok H (Fc τ.agg ((cs.drop<|C7<|l.take i).take τ.n).toArray)
 |[],_,i,_,_,h=>by simp at h
 |σ::l,_,0,τ,⟨v,rest,e,hv,hr⟩,h=>by
  simp at h;subst h;subst e;have a:=σ.shape hv;refine⟨by simp[a.size],?_⟩;have:(List.take σ.n<|v.cells.toList++rest).toArray=v.cells:=by rw[<-a.size,<-En,db]
  simpa[this,<-a.eq] using hv
 |σ::l,_,i+1,τ,⟨v,rest,e,hv,hr⟩,h=>by
  simp at h;subst e;have a:=σ.shape hv;let⟨f,c⟩:=L3 hr h;have d:List.drop (σ.n+C7 (List.take i l)) (v.cells.toList++rest)=List.drop (C7<|List.take i l) rest:=by rw[<-a.size,<-En,LC];simp
  refine⟨?_,?_⟩
  .simp[a.size];omega
  .simp[eI,lH,d];exact c
def S5{H:HV}:∀{l:A3 Ty} {cs:A3 AW} {i:Nat} {τ σ:Ty} {x:AW},Cx H l cs->l[i]? =some τ->σ.n=τ.n->σ.ok H x->Cx H (l.set i σ) (cs.take (C7<|l.take i)++x.cells.toList++cs.drop (C7 (l.take i)+τ.n))
 |[],_,i,_,_,_,_,h,_,_=>by simp at h
 |ρ::l,_,0,τ,σ,x,⟨v,rest,e,hv,hr⟩,h,hn,hx=>by
  simp at h;subst h;subst e;have a:=ρ.shape hv;have c:List.drop ρ.n (v.cells.toList++rest)=rest:=by rw[<-a.size,<-En,Uc]
  simp[List.set_cons_zero,List.take_zero,agq,N9,Fy,c];exact⟨x,rest,rfl,hx,hr⟩
 |ρ::l,_,i+1,τ,σ,x,⟨v,rest,e,hv,hr⟩,h,hn,hx=>by
  simp at h;subst e;have a:=ρ.shape hv;have ih:=S5 hr h hn hx;have d:List.take (ρ.n+C7 (List.take i l)) (v.cells.toList++rest)=v.cells.toList++List.take (C7<|List.take i l) rest:=by rw[<-a.size,<-En,Uj];simp[Ce]
  have f:List.drop (ρ.n+C7 (List.take i l)+τ.n) (v.cells.toList++rest)=List.drop (C7 (List.take i l)+τ.n) rest:=by rw[<-a.size,<-En,Iw,LC];simp
  simp[List.set_cons_succ,eI,lH,d,f];exact⟨v,_,by simp,hv,ih⟩
def Cl(l:A3 Ty):Ty where
 n:=C7 l
 agg:=true
 ok:=λH v=>∃cs,v= .agg cs/\Cx H l cs.toList
 mono:=λh ⟨cs,e,k⟩=>⟨cs,e,O3 h k⟩
 shape:=λ⟨cs,e,k⟩=>by subst e;exact⟨by simpa[Value.cells] using KT k,by simpa[Value.cells] using Pv k,rfl⟩
def Du(H:HV):A3 Ty->A3 AW->Prop
 |[],vs=>vs=[]|τ::l,vs=>∃v rest,vs=v::rest/\τ.ok H v/\Du H l rest
def XQ{H H':HV}(h:HV.le H H'):∀{l:A3 Ty} {vs:A3 AW},Du H l vs->Du H' l vs
 |[],_,e=>e|_::_,_,⟨v,rest,e,hv,hr⟩=>⟨v,rest,e,Ty.mono _ h hv,XQ h hr⟩
def aEA{H:HV}:∀{l:A3 Ty} {vs:A3 AW} {i:Nat} {τ:Ty},Du H l vs->l[i]? =some τ->∃v,vs[i]? =some v/\τ.ok H v
 |[],_,i,_,_,h=>by simp at h|_::_,_,0,_,⟨v,rest,e,hv,_⟩,h=>by simp at h;subst h;subst e;exact⟨v,rfl,hv⟩|_::_,_,i+1,_,⟨v,rest,e,_,hr⟩,h=>by simp at h;subst e;simpa using aEA hr h
def Q6{H:HV}:∀{l:A3 Ty} {vs:A3 AW},Du H l vs->vs.length=l.length
 |[],_,e=>by subst e;rfl|_::_,_,⟨v,rest,e,_,hr⟩=>by subst e;simp[Q6 hr]
def GH(τ:Ty):Ty where
 n:=1
 agg:=false
 ok:=λH v=>∃b off cs E fr,v= .pointer (some ⟨b,off,none⟩)/\H b=some (.cells cs E fr)/\off+τ.n<=cs.size/\
  τ.ok H (Fc τ.agg ((cs.toList.drop off).take τ.n).toArray)
 mono:=λh ⟨b,off,cs,E,fr,e,a,c,k⟩=>⟨b,off,cs,E,fr,e,h _ _ a,c,τ.mono h k⟩
 shape:=λ⟨_,_,_,_,_,e,_⟩=>by subst e;exact Shape.one rfl
def F2(l:A3 Ty):Ty where
 n:=1
 agg:=false
 ok:=λH v=>∃a cap,v= .slice a l.length cap/\l.length<=cap/\
  (l≠[]->∃b off cs E fr,a=some ⟨b,off,none⟩/\H b=some (.cells cs E fr)/\off+C7 l<=cs.size/\Cx H l ((cs.toList.drop off).take<|C7 l))
 mono:=λh ⟨a,cap,e,c,k⟩=>⟨a,cap,e,c,λd=>by let⟨b,off,cs,E,fr,f,g,i,j⟩:=k d;exact⟨b,off,cs,E,fr,f,h _ _ g,i,O3 h j⟩⟩
 shape:=λ⟨_,_,e,_,_⟩=>by subst e;exact Shape.one rfl
def TEx{α:Type}(n:Nat)(agg:Bool)(p:α->Prop)(τ:α->Ty)(c:∀a,(τ a).n=n)(d:∀a,(τ a).agg=agg):Ty where
 n:=n
 agg:=agg
 ok:=λH v=>∃a,p a/\(τ a).ok H v
 mono:=λh ⟨a,e,k⟩=>⟨a,e,(τ a).mono h k⟩
 shape:=λ⟨a,_,k⟩=>by have:=(τ a).shape k;rw[c,d] at this;exact this
def okM(H:HV):Nat->A3 (Ty×Ty)->A3 MapEntry->Prop
 |_,[],[]=>True|i,(k,e)::l,x::xs=>k.ok H x.key/\e.ok H x.val/\x.born=i/\okM H (i+1) l xs|_,_,_=>False
def na{H H':HV}(h:HV.le H H'):∀{i:Nat} {l:A3 (Ty×Ty)} {es:A3 MapEntry},okM H i l es->okM H' i l es
 |_,[],[],_=>trivial|_,[],_::_,k=>k.elim|_,(_,_)::_,[],k=>k.elim|_,(k,e)::_,_::_,⟨h1,h2,h3,h4⟩=>⟨k.mono h h1,e.mono h h2,h3,na h h4⟩
def iV(L:A3 (Ty×Ty)):Ty where
 n:=1
 agg:=false
 ok:=λH v=>∃r es,v= .map (some r)/\H r=some (.map es es.size)/\okM H 0 L es.toList
 mono:=λh ⟨r,es,e,a,k⟩=>⟨r,es,e,h _ _ a,na h k⟩
 shape:=λ⟨_,_,e,_,_⟩=>by subst e;exact Shape.one rfl
end
section
variable{P:Program}
variable[D:DR]
variable{w:AS}{H:HV}{B:Ah P}{v:AW}{a:Act}{w':AS}{H':HV}{b:Nat}{Eb:Ap}{w0:Ah P}{H0:HV}{N d:Nat}{B':Ah P}{E:Ap}{l:A3 Ty}
structure Far(n:Nat)(own:Nat->Prop)(w:AS)(H:HV)(w':AS)(H':HV):Prop where
 size:w.heap.size<=w'.heap.size
 os:w'.os=w.os
 tape:w'.tape=w.tape
 output:w'.output=w.output
 drawn:Fe w w'
 le:HV.le H H'
 DT:∀b,b<w.heap.size->(b<n\/own b)->w'.heap[b]? =w.heap[b]?
 view:∀b,b<w.heap.size->(b<n\/own b)->H' b=H b
 sub:∀r o,H' r=some o->w'.heap[r]? =some o
def Far.imp{n m:Nat}{p q:Nat->Prop}{w w':AS}{H H':HV}(h:Far n p w H w' H')(e:m<=n)(f:∀b,q b->p b):Far m q w H w' H':=⟨h.size,h.os,h.tape,h.output,h.drawn,h.le,λb c k=>h.DT b c<|k.imp (λx=>I6 x e)<|f b,λb c k=>h.view b c<|k.imp (λx=>I6 x e)<|f b,h.sub⟩
def YU:Obj->Prop
 | .deferred _=>False|_=>True
structure Inv where
 n:Nat
 M:Nat->Prop
 p:AS->HV->Prop
 lt:∀{w:AS} {H:HV} {b:Nat},p w H->M b->b<w.heap.size/\H b=none/\∃o,w.heap[b]? =some o/\YU o
 step:∀{w w':AS} {H H':HV},p w H->Far n M w H w' H'->p w' H'
inductive Cm where
 |val(τ:Ty)|buf(l:A3 Ty)|any
inductive Bm where
 |val(τ:Ty)|any(n:Nat)(agg:Bool)|sm(u:Nat)|buf(E:Ap)(sz:Nat)(l:A3 Ty)|map(K E:Ap)(Eb:Ap)(sz:Nat)(L0:A3 (Ty×Cm))
inductive AT where
 |val(τ:Ty)|tup(l:A3 Ty)|own(T:Ap)(τ:Ty)|ptr(t off:Nat)|opt(c:Bool)(s:AT)|same(t:Nat)|IB(t j sz:Nat)|bpf(t off:Nat)|gone|buf(E:Ap)(sz:Nat)(l:A3 Ty)|LY(x:AW)(E:Ap)(sz:Nat)(l:A3 Ty)|Cg(T:Ap)(agg:Bool)(ps:A3 Bm)|Fa(K E:Ap)(Eb:Ap)(sz:Nat)(L0:A3 (Ty×Cm))|Oz(Eb:Ap)(sz:Nat)(l:A3 Ty)(i:Nat)|inv(I:Inv)|IH(t:Nat)(v:AW)|DN(l:Nat)(rc:Loop)|HI(L:A3 (Ty×Ty))(seen:A3 Nat)|vec(k:A9 FuncId)(us:A3 Nat)|Qt(t:Nat)(i:Int)|GK(T E:Ap)(l:A3 Ty)|EA(E:Ap)(pre post:A3 AW)(l:A3 Ty)|win(t j n sz:Nat)|Kl(t i sz:Nat)
def Ad(a:Act)(t:Nat):AW:=a.tmps.getD t undef
def Yw(a:Act)(k:A9 FuncId)(us:A3 Nat):AW:=match k with|none=> .agg (us.map<|Ad a).toArray|some f=> .func (.func f) #[] (us.map<|Ad a).toArray
def Ih(B:Ah P)(w:AS)(H:HV)(E:Ap)(sz:Nat)(l:A3 Ty)(v:AW):Prop:=∃xs,w.ownsRow 0 E sz v l.length xs/\Cx H l xs/\∀b,v.ownBlock=some b->H b=none/\B.Da b
def Cm.holds(B:Ah P)(w:AS)(H:HV)(Eb:Ap)(sz:Nat)(v:AW):Cm->Prop
 | .val τ=>τ.ok H v| .buf l=>Ih B w H Eb sz l v| .any=>True
def Cm.owns(v:AW)(b:Nat):Cm->Prop
 | .buf _=>v.ownBlock=some b|_=>False
def II(B:Ah P)(w:AS)(H:HV)(Eb:Ap)(sz:Nat):Nat->A3 (Ty×Cm)->A3 MapEntry->Prop
 |_,[],[]=>True|i,(k,e)::l,x::xs=>k.ok H x.key/\e.holds B w H Eb sz x.val/\x.born=i/\II B w H Eb sz (i+1) l xs|_,_,_=>False
def GB(b:Nat):A3 (Ty×Cm)->A3 MapEntry->Prop
 |(_,e)::l,x::xs=>e.owns x.val b\/GB b l xs|_,_=>False
def MU:A3 (Ty×Cm)->A3 MapEntry->Prop
 |(_,e)::l,x::xs=>(∀b,e.owns x.val b-> ¬GB b l xs)/\MU l xs|_,_=>True
def Oj(B:Ah P)(w:AS)(H:HV)(Eb:Ap)(sz:Nat)(c:A3 (Ty×Cm))(v:AW):Prop:=∃r es,v= .map (some r)/\w.heap[r]? =some (.map es es.size)/\H r=none/\B.Da r/\II B w H Eb sz 0 c es.toList/\MU c es.toList
def N4(w:AS)(c:A3 (Ty×Cm))(v:AW)(b:Nat):Prop:=v= .map (some b)\/∃r es,v= .map (some r)/\w.heap[r]? =some (.map es es.size)/\GB b c es.toList
def Bm.n:Bm->Nat
 | .val τ=>τ.n| .any n _=>n|_=>1
def Bm.agg:Bm->Bool
 | .val τ=>τ.agg| .any _ a=>a|_=>false
def Bm.holds(B:Ah P)(a:Act)(w:AS)(H:HV)(v:AW):Bm->Prop
 | .val τ=>τ.ok H v| .any n g=>Shape n g v| .sm u=>v=Ad a u/\v.oneCell'=true| .buf E sz l=>Ih B w H E sz l v| .map _ _ Eb sz L0=>Oj B w H Eb sz L0 v
def Bm.owns(w:AS)(v:AW)(b:Nat):Bm->Prop
 | .buf _ _ _=>v.ownBlock=some b| .map _ _ _ _ L0=>N4 w L0 v b|_=>False
def Gz(B:Ah P)(a:Act)(w:AS)(H:HV):A3 Bm->A3 AW->Prop
 |[],cs=>cs=[]|p::l,cs=>∃v rest,cs=v.cells.toList++rest/\Shape p.n p.agg v/\p.holds B a w H v/\Gz B a w H l rest
def F7(w:AS)(b:Nat):A3 Bm->A3 AW->Prop
 |[],_=>False|p::l,cs=>p.owns w (Fc p.agg (cs.take p.n).toArray) b\/F7 w b l (cs.drop p.n)
def LX(w:AS):A3 Bm->A3 AW->Prop
 |[],_=>True|p::l,cs=>(∀b,p.owns w (Fc p.agg (cs.take p.n).toArray) b-> ¬F7 w b l (cs.drop p.n))/\LX w l (cs.drop p.n)
def AT.holds(B:Ah P)(a:Act)(w:AS)(H:HV)(v:AW):AT->Prop
 | .val τ=>τ.ok H v| .tup l=>∃vs,v= .tuple vs/\Du H l vs.toList| .own T τ=>∃b x,v= .pointer (some ⟨b,0,none⟩)/\w.heap[b]? =some (.cells x.cells T (0,0))/\τ.ok H x/\H b=none/\B.Da b| .ptr t off=>∃b,Ad a t= .pointer (some ⟨b,0,none⟩)/\v= .pointer (some ⟨b,off,none⟩)| .opt c s=>(c=true->s.holds B a w H v)/\(c=false->v=undef)| .same t=>v=Ad a t| .IB t j sz=>∃b len cap,Ad a t= .slice (some ⟨b,0,none⟩) len cap/\v= .pointer (some ⟨b,j*sz,none⟩)| .bpf t off=>∃b len cap,Ad a t= .slice (some ⟨b,0,none⟩) len cap/\v= .pointer (some ⟨b,off,none⟩)| .gone=>True| .buf E sz l=>Ih B w H E sz l v| .LY x E sz l=>Ih B w H E sz l x| .Cg T _ ps=>∃b cs,v= .pointer (some ⟨b,0,none⟩)/\w.heap[b]? =some (.cells cs T (0,0))/\H b=none/\B.Da b/\Gz B a w H ps cs.toList/\LX w ps cs.toList/\ ¬F7 w b ps cs.toList| .Fa _ _ Eb sz L0=>Oj B w H Eb sz L0 v| .Oz Eb sz l i=>∃x,v= .tuple #[x,.int .i64 i]/\Ih B w H Eb sz l x| .inv I=>I.p w H/\I.n=B.lo| .IH t x=>Ad a t=x| .DN l rc=>w.heap[l]? =some (.loop rc)/\H l=none/\B.Da l| .vec k us=>v=Yw a k us| .Qt t i=>∃x,Ad a t= .tuple #[x,.int .i64 i]| .EA E pre post l=>∃g c cur xs,v= .slice (some ⟨g,pre.length,none⟩) l.length c/\w.heap[g]? =some (.cells cur E (0,0))/\cur.toList=pre++(xs++post)/\Cx H l xs/\H g=none/\B.Da g| .win t j n sz=>∃g len cap c,Ad a t= .slice (some ⟨g,0,none⟩) len cap/\v= .slice (some ⟨g,j*sz,none⟩) n c| .Kl t i sz=>∃g o n c,Ad a t= .slice (some ⟨g,o,none⟩) n c/\v= .pointer (some ⟨g,o+i*sz,none⟩)| .GK T E l=>∃b p r,v= .pointer (some ⟨b,0,none⟩)/\w.heap[b]? =some (.cells #[p,r] T (0,0))/\(p= .pointer none\/p= .pointer (some ⟨b,0,none⟩))/\H b=none/\B.Da b/\Ih B w H E 1 l r/\r.ownBlock≠some b| .HI L seen=>∃r m es e,v= .pointer (some ⟨r,0,none⟩)/\w.heap[r]? =some (.mapIter (some m) es.size e es.size)/\H r=none/\B.Da r/\H m=some (.map es es.size)/\okM H 0 L es.toList/\e.toList=seen
def AT.owns(w:AS)(v:AW)(b:Nat):AT->Prop
 | .own _ _=>∃e,v= .pointer (some e)/\e.block=b| .buf _ _ _=>v.ownBlock=some b| .LY x _ _ _=>x.ownBlock=some b| .opt c s=>c=true/\s.owns w v b| .Cg T _ ps=>∃c,v= .pointer (some ⟨c,0,none⟩)/\(b=c\/∃cs,w.heap[c]? =some (.cells cs T (0,0))/\F7 w b ps cs.toList)| .Fa _ _ _ _ L0=>N4 w L0 v b| .Oz _ _ _ _=>∃x i,v= .tuple #[x,i]/\x.ownBlock=some b| .inv I=>I.M b| .DN l _=>b=l| .HI _ _=>∃e,v= .pointer (some e)/\e.block=b| .EA _ _ _ _=>v.ownBlock=some b| .GK T _ _=>∃c,v= .pointer (some ⟨c,0,none⟩)/\(b=c\/∃p r,w.heap[c]? =some (.cells #[p,r] T (0,0))/\r.ownBlock=some b)|_=>False
def Oh:A3 Bm->A3 Nat
 |[]=>[]| .sm u::l=>u::Oh l|_::l=>Oh l
def AT.Bv:AT->A3 Nat
 | .ptr t _=>[t]| .same t=>[t]| .IB t _ _=>[t]| .bpf t _=>[t]| .opt _ s=>s.Bv| .Cg _ _ ps=>Oh ps| .IH t _=>[t]| .vec _ us=>us| .Qt t _=>[t]| .win t _ _ _=>[t]| .Kl t _ _=>[t]|_=>[]
abbrev Ctx:=A3<|Nat×AT
def Marks(B:Ah P)(w:AS)(H:HV):A3 Deferred->Prop
 |[]=>True|d::ds=>(∃D,d={target:= .collected D,args:= #[]}/\(B.rd=none->B.n<=D)/\w.heap[D]? =some (.deferred<|some [])/\H D=none/\∀e∈ds,e≠d)/\Marks B w H ds
def Marks.kept{B:Ah P}{w w':AS}{H H':HV}:∀{ds:A3 Deferred},Marks B w H ds->(∀D,({target:= .collected D,args:= #[]}:Deferred)∈ds->w.heap[D]? =some (.deferred<|some [])->H D=none->w'.heap[D]? =some (.deferred<|some [])/\H' D=none)->Marks B w' H' ds
 |[],_,_=>trivial|_::_,⟨⟨D,e,h1,h2,h3,h4⟩,r⟩,k=>⟨⟨D,e,h1,(k D (by simp[e]) h2 h3).1,(k D (by simp[e]) h2 h3).2,h4⟩,r.kept λD c=>k D<|Bg _ c⟩
structure Sat(w0:Ah P)(H0:HV)(N:Nat)(Γ:Ctx)(a:Act)(w:AS)(H:HV):Prop where
 nd:Marks w0 w H (a.defers++w0.ds)
 sz:a.tmps.size=N
 below:Kept w0 w
 FY:w0.Gy=false->∀r,r<w0.n-> ¬w0.X r->H r=H0 r
 sub:∀r o,H r=some o->w.heap[r]? =some o
 holds:∀p∈Γ,p.2.holds w0 a w H<|Ad a p.1
 sep:∀p∈Γ,∀q∈Γ,p.1≠q.1->∀b,p.2.owns w (Ad a p.1) b-> ¬q.2.owns w (Ad a q.1) b
 gl:JD P H
def Sat.weaken{Γ Ar:Ctx}(h:Sat w0 H0 N Γ a w H)(c:∀p∈Ar,p∈Γ):Sat w0 H0 N Ar a w H:={h with holds:=λp e=>h.holds p<|c p e,sep:=λp e q f=>h.sep p (c p e) q (c q f)}
theorem Ft(sub:∀r o,H r=some o->w.heap[r]? =some o){r:Nat}{o:Obj}(h:H r=some o):r<w.heap.size:=by grind
structure Ext(w:AS)(H:HV)(w':AS)(H':HV):Prop where
 below:Ea w.heap.size w w'
 le:HV.le H H'
 FY:∀r,r<w.heap.size->H' r=H r
 sub:∀r o,H' r=some o->w'.heap[r]? =some o
def Ext.refl{w:AS}{H:HV}(sub:∀r o,H r=some o->w.heap[r]? =some o):Ext w H w H:=⟨Ea.refl _ _,HV.le.refl _,λ_ _=>rfl,sub⟩
def Ext.far(h:Ext w H w' H')(n:Nat)(p:Nat->Prop):Far n p w H w' H':=⟨h.below.size,h.below.os,h.below.tape,h.below.output,h.below.drawn,h.le,λb c _=>h.below.block b c,λb c _=>h.FY b c,h.sub⟩
def Ext.grown(sub:∀r o,H r=some o->w.heap[r]? =some o)(e:Ea w.heap.size w w'):Ext w H w' (grow H w w'):=by
 refine⟨e,?_,?_,?_⟩
 .intro r o h;have:=Ft sub h;simp[grow,this,h]
 .intro r h;simp[grow,h]
 .intro r o h;by_cases c:r<w.heap.size
  .simp[grow,c] at h;rw[e.block r c];exact sub r o h
  .simpa[grow,c] using h
def Ext.alloc{w:AS}{H:HV}(sub:∀r o,H r=some o->w.heap[r]? =some o)(o:Obj):Ext w H (w.alloc o) H:=by refine⟨Ea.alloc _,HV.le.refl _,λ_ _=>rfl,?_⟩;intro r x h;have:=Ft sub h;rw[heap_alloc_old w o this];exact sub r x h
def Z3(B:Ah P)(w:AS)(H:HV)(b:Nat):Prop:=b<w.heap.size/\B.Da b/\H b=none/\∃o,w.heap[b]? =some o/\YU o
def lt_of_heap{o:Obj}(h:w.heap[b]? =some o):b<w.heap.size:=(QP.1 h).1
def GO{sz:Nat}(h:Ih B w H E sz l v)(c:v.ownBlock=some b):Z3 B w H b:=by
 let⟨xs,f,k,i⟩:=h;refine⟨(f.lt b c).2,(i b c).2,(i b c).1,?_⟩;obtain⟨_,(⟨e,_⟩|⟨g,cap,cur,e,_,j,_⟩)⟩:=f
 .subst e;simp[Value.ownBlock] at c
 .subst e;simp[Value.ownBlock] at c;subst c;exact⟨_,j,trivial⟩
def wN{B:Ah P}{w:AS}{H:HV}{Eb:Ap}{sz:Nat}{b:Nat}:∀{i:Nat} {l:A3 (Ty×Cm)} {es:A3 MapEntry},II B w H Eb sz i l es->GB b l es->Z3 B w H b
 |_,[],_,_,h=>by simp[GB] at h|_,(_,_)::_,[],_,h=>by simp[GB] at h
 |i,(k,e)::l,x::xs,⟨_,he,_,hr⟩,h=>by
  rcases h with h|h
  .cases e with|val τ=>exact h.elim|any=>exact h.elim|buf l=>exact GO he h
  .exact wN hr h
def Q9{sz:Nat}{i:A3 (Ty×Cm)}(h:Oj B w H Eb sz i v)(c:N4 w i v b):Z3 B w H b:=by
 let⟨r,es,e,g,j,k,m,q⟩:=h;subst e;rcases c with c|⟨s,n,o,f,c⟩
 .cases c;exact⟨lt_of_heap g,k,j,_,g,trivial⟩
 .cases o;rw[g] at f;cases f;exact wN m c
def ajY:∀{p:Bm},p.holds B a w H v->p.owns w v b->Z3 B w H b
 | .val _,_,h=>h.elim| .any _ _,_,h=>h.elim| .sm _,_,h=>h.elim| .buf _ _ _,k,h=>GO k h| .map _ _ _ _ _,k,h=>Q9 k h
theorem O4{p:Bm}{rest:A3 AW}(h:Shape p.n p.agg v):Fc p.agg ((v.cells.toList++rest).take p.n).toArray=v/\(v.cells.toList++rest).drop p.n=rest:=by
 have c:=h.size;constructor
 .have:(List.take p.n<|v.cells.toList++rest).toArray=v.cells:=by rw[<-c,<-En,db]
  rw[this];exact h.eq.symm
 .grind
def Nz{B:Ah P}{a:Act}{w:AS}{H:HV}{b:Nat}:∀{ps:A3 Bm} {cs:A3 AW},Gz B a w H ps cs->F7 w b ps cs->Z3 B w H b
 |[],_,_,h=>h.elim
 |p::l,_,⟨v,rest,e,E5,hv,hr⟩,h=>by
  subst e;let⟨c,f⟩:=O4 (rest:=rest) E5;rcases h with h|h
  .rw[c] at h;exact ajY hv h
  .rw[f] at h;exact Nz hr h
def AT.H8{B:Ah P}{a:Act}{w:AS}{H:HV}{v:AW}{b:Nat}:∀{s:AT},s.holds B a w H v->s.owns w v b->b<w.heap.size/\H b=none/\∃o,w.heap[b]? =some o/\YU o
 | .val _,_,h=>h.elim| .tup _,_,h=>h.elim| .ptr _ _,_,h=>h.elim| .same _,_,h=>h.elim| .IB _ _ _,_,h=>h.elim| .bpf _ _,_,h=>h.elim| .gone,_,h=>h.elim| .IH _ _,_,h=>h.elim| .vec _ _,_,h=>h.elim| .Qt _ _,_,h=>h.elim
 | .own T τ,⟨c,x,e,hb,hx,hn,hB⟩,⟨ad,e',h⟩=>by subst e;cases e';cases h;exact⟨lt_of_heap hb,hn,_,hb,trivial⟩
 | .buf _ _ _,h,k=>⟨(GO h k).1,(GO h k).2.2⟩| .LY _ _ _ _,h,k=>⟨(GO h k).1,(GO h k).2.2⟩
 | .Cg T _ ps,⟨c,cs,e,hb,hn,hB,ho,hs,hx⟩,⟨c',e',h⟩=>by
  subst e;cases e';rcases h with h|⟨i,f,h⟩
  .subst h;exact⟨lt_of_heap hb,hn,_,hb,trivial⟩
  .rw[hb] at f;cases f;exact⟨(Nz ho h).1,(Nz ho h).2.2⟩
 | .Fa _ _ _ _ _,h,k=>⟨(Q9 h k).1,(Q9 h k).2.2⟩
 | .Oz _ _ _ _,⟨x,e,h⟩,⟨x',i',e',k⟩=>by rw[e] at e';cases e';exact⟨(GO h k).1,(GO h k).2.2⟩
 | .opt c s,h,⟨hc,k⟩=>AT.H8 (s:=s) (h.1 hc) k| .inv I,⟨h,_⟩,k=>I.lt h k
 | .DN l _,⟨h,h2,h3⟩,k=>by have k:b=l:=k;subst k;exact⟨lt_of_heap h,h2,_,h,trivial⟩
 | .HI _ _,⟨r,m,es,sn,e,h1,h2,_⟩,⟨ad,e',h⟩=>by subst e;cases e';cases h;exact⟨lt_of_heap h1,h2,_,h1,trivial⟩
 | .win _ _ _ _,_,h=>h.elim| .Kl _ _ _,_,h=>h.elim
 | .EA _ _ _ _,⟨g,c,cur,xs,e,hb,_,_,hn,_⟩,h=>by subst e;cases h;exact⟨lt_of_heap hb,hn,_,hb,trivial⟩
 | .GK _ _ _,⟨c,p,r,e,hb,_,hn,_,ho,_⟩,⟨c',e',h⟩=>by
  subst e;cases e';rcases h with h|⟨j,n,f,h⟩
  .subst h;exact⟨lt_of_heap hb,hn,_,hb,trivial⟩
  .have e2:=hb.symm.trans f;simp at e2;obtain⟨rfl,rfl⟩:=e2;exact⟨(GO ho h).1,(GO ho h).2.2⟩
def UX{sz:Nat}(h:Ih B w H E sz l v)(c:HV.le H H')
 (j:∀b,v.ownBlock=some b->w'.heap[b]? =w.heap[b]? /\H' b=H b):Ih B w' H' E sz l v:=by
 let⟨xs,⟨m,f⟩,n,k⟩:=h;refine⟨xs,⟨m,?_⟩,O3 c n,λb i=>⟨by rw[(j b i).2];exact(k b i).1,(k b i).2⟩⟩;rcases f with f|⟨g,cap,cur,e,o,q,r⟩
 .exact .inl f
 .refine .inr ⟨g,cap,cur,e,o,?_,r⟩;rw[(j g (by rw[e];rfl)).1];exact q
def pA{B:Ah P}{w w':AS}{H H':HV}{Eb:Ap}{sz:Nat}(c:HV.le H H'):∀{i:Nat} {l:A3 (Ty×Cm)} {es:A3 MapEntry},II B w H Eb sz i l es->(∀b,GB b l es->w'.heap[b]? =w.heap[b]? /\H' b=H b)->II B w' H' Eb sz i l es
 |_,[],[],_,_=>trivial|_,[],_::_,h,_=>h.elim|_,(_,_)::_,[],h,_=>h.elim
 |i,(k,e)::l,x::xs,⟨hk,he,hb,hr⟩,hx=>by refine⟨k.mono c hk,?_,hb,pA c hr λb h=>hx b<| .inr h⟩;cases e with|val τ=>exact τ.mono c he|any=>trivial|buf l=>exact UX he c λb h=>hx b<| .inl h
theorem zS{sz:Nat}{f:A3 (Ty×Cm)}(h:Oj B w H Eb sz f v)(g:HV.le H H')
 (j:∀b,N4 w f v b->w'.heap[b]? =w.heap[b]? /\H' b=H b):Oj B w' H' Eb sz f v/\∀b,N4 w' f v b↔N4 w f v b:=by
 let⟨r,es,e,i,k,m,n,o⟩:=h;subst e;have q:=j r<| .inl rfl
 have c:w'.heap[r]? =some (.map es es.size):=by grind
 refine⟨⟨r,es,rfl,c,by rw[q.2];exact k,m,pA g n λb h=>j b<| .inr ⟨r,es,rfl,i,h⟩,o⟩,λb=>?_⟩;constructor
 .rintro(h|⟨r1,es1,e1,h1,h2⟩)
  .exact .inl h
  .cases e1;rw[c] at h1;cases h1;exact .inr ⟨r,es,rfl,i,h2⟩
 .rintro(h|⟨r1,es1,e1,h1,h2⟩)
  .exact .inl h
  .cases e1;rw[i] at h1;cases h1;exact .inr ⟨r,es,rfl,c,h2⟩
def ajZ(c:HV.le H H'):∀{p:Bm},p.holds B a w H v->(∀b,p.owns w v b->w'.heap[b]? =w.heap[b]? /\H' b=H b)->p.holds B a w' H' v/\∀b,p.owns w' v b↔p.owns w v b
 | .val τ,h,_=>⟨τ.mono c h,λ_=>Iff.rfl⟩| .any _ _,h,_=>⟨h,λ_=>Iff.rfl⟩| .sm _,h,_=>⟨h,λ_=>Iff.rfl⟩| .buf _ _ _,h,k=>⟨UX h c k,λ_=>Iff.rfl⟩| .map _ _ _ _ _,h,k=>zS h c k
def dK{B:Ah P}{a:Act}{w w':AS}{H H':HV}(c:HV.le H H'):∀{ps:A3 Bm} {cs:A3 AW},Gz B a w H ps cs->(∀b,F7 w b ps cs->w'.heap[b]? =w.heap[b]? /\H' b=H b)->Gz B a w' H' ps cs/\(∀b,F7 w' b ps cs↔F7 w b ps cs)/\(LX w ps cs->LX w' ps cs)
 |[],_,h,_=>⟨h,λ_=>Iff.rfl,λh=>h⟩
 |p::l,_,⟨v,rest,e,E5,hv,hr⟩,k=>by
  subst e;let⟨i,j⟩:=O4 (rest:=rest) E5;simp only[F7,LX,i,j] at k⊢;let⟨m,f⟩:=ajZ c hv λb h=>k b<| .inl h
  let⟨n,g,o⟩:=dK c hr λb h=>k b<| .inr h
  refine⟨⟨v,rest,rfl,E5,m,n⟩,λb=>or_congr (f b)<|g b,λ⟨q,r⟩=>⟨λb s=>?_,o r⟩⟩;rw[g];exact q b<|(f b).1 s
def AT.E8:AT->Bool
 | .inv _=>true| .opt _ s=>s.E8|_=>false
theorem AT.U7{B:Ah P}{a:Act}{w w':AS}{H H':HV}{v:AW}{n:Nat}:∀{s:AT},s.holds B a w H v->(s.E8=true->n=B.lo)->Far n (λb=>s.owns w v b) w H w' H'->s.holds B a w' H' v/\∀b,s.owns w' v b↔s.owns w v b
 | .val τ,h,_,F=>⟨τ.mono F.le h,λ_=>Iff.rfl⟩| .tup _,⟨vs,e,k⟩,_,F=>⟨⟨vs,e,XQ F.le k⟩,λ_=>Iff.rfl⟩
 | .own T τ,⟨b,x,e,f,hx,hn,hB⟩,_,F=>by subst e;have i:=lt_of_heap f;have j:(AT.own T τ).owns w (.pointer<|some ⟨b,0,none⟩) b:=⟨_,rfl,rfl⟩;exact⟨⟨b,x,rfl,by rw[F.DT b i<| .inr j];exact f,τ.mono F.le hx,by rw[F.view b i<| .inr j];exact hn,hB⟩,λ_=>Iff.rfl⟩
 | .ptr _ _,h,_,_=>⟨h,λ_=>Iff.rfl⟩
 | .opt c s,h,hi,F=>by
  cases c with
  |false=>exact⟨⟨(λe=>by cases e),h.2⟩,λb=>by simp[AT.owns]⟩
  |true=>
   let⟨o,q⟩:=U7 (s:=s) (h.1 rfl) hi<|F.imp (BJ _) λb f=>⟨rfl,f⟩
   exact⟨⟨λ_=>o,h.2⟩,λb=>by simp[AT.owns,q]⟩
 | .same _,h,_,_=>⟨h,λ_=>Iff.rfl⟩| .IB _ _ _,h,_,_=>⟨h,λ_=>Iff.rfl⟩| .bpf _ _,h,_,_=>⟨h,λ_=>Iff.rfl⟩| .gone,h,_,_=>⟨h,λ_=>Iff.rfl⟩| .IH _ _,h,_,_=>⟨h,λ_=>Iff.rfl⟩| .vec _ _,h,_,_=>⟨h,λ_=>Iff.rfl⟩| .Qt _ _,h,_,_=>⟨h,λ_=>Iff.rfl⟩| .buf _ _ _,h,_,F=>⟨UX h F.le λb f=>⟨F.DT b (GO h f).1<| .inr f,F.view b (GO h f).1<| .inr f⟩,λ_=>Iff.rfl⟩| .LY _ _ _ _,h,_,F=>⟨UX h F.le λb f=>⟨F.DT b (GO h f).1<| .inr f,F.view b (GO h f).1<| .inr f⟩,λ_=>Iff.rfl⟩
 | .Cg T g ps,⟨c,cs,e,f,hn,hB,j,hs,hx⟩,_,F=>by
  subst e;have i:=lt_of_heap f;have t:(AT.Cg T g ps).owns w (.pointer<|some ⟨c,0,none⟩) c:=⟨c,rfl,.inl rfl⟩;have y:∀b,F7 w b ps cs.toList->(AT.Cg T g ps).owns w (.pointer<|some ⟨c,0,none⟩) b:=λb h=>⟨c,rfl,.inr ⟨cs,f,h⟩⟩
  have z:w'.heap[c]? =some (.cells cs T (0,0)):=by rw[F.DT c i<| .inr t];exact f
  let⟨o,q,A⟩:=dK F.le j λb h=>⟨F.DT b (Nz j h).1<| .inr<|y b h,F.view b (Nz j h).1<| .inr<|y b h⟩
  refine⟨⟨c,cs,rfl,z,by rw[F.view c i<| .inr t];exact hn,hB,o,A hs,by rw[q];exact hx⟩,λb=>?_⟩;constructor
  .rintro⟨c',e',h⟩;cases e';rcases h with h|⟨J,u,h⟩
   .grind
   .grind
  .rintro⟨c',e',h⟩;cases e';rcases h with h|⟨J,u,h⟩
   .exact⟨c,rfl,.inl h⟩
   .rw[f] at u;cases u;exact⟨c,rfl,.inr ⟨cs,z,(q b).2 h⟩⟩
 | .Fa _ _ _ _ _,h,_,F=>zS h F.le λb f=>⟨F.DT b (Q9 h f).1<| .inr f,F.view b (Q9 h f).1<| .inr f⟩
 | .Oz _ _ _ _,⟨x,e,h⟩,_,F=>by subst e;exact⟨⟨x,rfl,UX h F.le λb f=>⟨F.DT b (GO h f).1<| .inr ⟨x,_,rfl,f⟩,F.view b (GO h f).1<| .inr ⟨x,_,rfl,f⟩⟩⟩,λ_=>Iff.rfl⟩
 | .DN l rc,⟨h,q,A⟩,_,F=>⟨⟨by rw[F.DT l (lt_of_heap h)<| .inr rfl];exact h,by rw[F.view l (lt_of_heap h)<| .inr rfl];exact q,A⟩,λ_=>Iff.rfl⟩
 | .HI L seen,⟨r,m,es,sn,e,o,q,A,h4,h5,h6⟩,_,F=>by subst e;have j:(AT.HI L seen).owns w (.pointer<|some ⟨r,0,none⟩) r:=⟨_,rfl,rfl⟩;exact⟨⟨r,m,es,sn,rfl,by rw[F.DT r (lt_of_heap o)<| .inr j];exact o,by rw[F.view r (lt_of_heap o)<| .inr j];exact q,A,F.le _ _ h4,na F.le h5,h6⟩,λ_=>Iff.rfl⟩
 | .win _ _ _ _,h,_,_=>⟨h,λ_=>Iff.rfl⟩| .Kl _ _ _,h,_,_=>⟨h,λ_=>Iff.rfl⟩
 | .EA E pre post l,⟨g,c,cur,xs,e,f,hc,j,hn,hB⟩,_,F=>by subst e;have t:(AT.EA E pre post l).owns w (.slice (some ⟨g,pre.length,none⟩) l.length c) g:=rfl;exact⟨⟨g,c,cur,xs,rfl,by rw[F.DT g (lt_of_heap f)<| .inr t];exact f,hc,O3 F.le j,by rw[F.view g (lt_of_heap f)<| .inr t];exact hn,hB⟩,λ_=>Iff.rfl⟩
 | .GK T E l,⟨c,p,r,e,f,hp,hn,hB,j,hx⟩,_,F=>by
  subst e;have i:=lt_of_heap f;have t:(AT.GK T E l).owns w (.pointer<|some ⟨c,0,none⟩) c:=⟨c,rfl,.inl rfl⟩;have y:∀b,r.ownBlock=some b->(AT.GK T E l).owns w (.pointer<|some ⟨c,0,none⟩) b:=λb h=>⟨c,rfl,.inr ⟨p,r,f,h⟩⟩
  have z:w'.heap[c]? =some (.cells #[p,r] T (0,0)):=by rw[F.DT c i<| .inr t];exact f
  have o:=UX j F.le λb h=>⟨F.DT b (GO j h).1<| .inr<|y b h,F.view b (GO j h).1<| .inr<|y b h⟩
  refine⟨⟨c,p,r,rfl,z,hp,by rw[F.view c i<| .inr t];exact hn,hB,o,hx⟩,λb=>?_⟩;constructor
  .rintro⟨c',e',h⟩;cases e';rcases h with h|⟨C,G,u,h⟩
   .grind
   .grind
  .rintro⟨c',e',h⟩;cases e';rcases h with h|⟨C,G,u,h⟩
   .exact⟨c,rfl,.inl h⟩
   .exact⟨c,rfl,.inr ⟨C,G,by rw[z,<-f];exact u,h⟩⟩
 | .inv I,⟨h,e⟩,hi,F=>by
  have:n=I.n:=by rw[hi rfl,e]
  exact⟨⟨I.step h<|this▸F,e⟩,λ_=>Iff.rfl⟩
def AT.XE{s:AT}(h:s.holds B a w H v)(F:Far B.lo (λb=>s.owns w v b) w H w' H'):s.holds B a w' H' v/\∀b,s.owns w' v b↔s.owns w v b:=AT.U7 h (λ_=>rfl) F
def AT.aiL(c:Ext w H w' H'){s:AT}(h:s.holds B a w H v):s.holds B a w' H' v:=(AT.XE h<|c.far _ _).1
def AT.bk(c:Ext w H w' H'){s:AT}(h:s.holds B a w H v)(b:Nat):s.owns w' v b↔s.owns w v b:=(AT.XE h<|c.far _ _).2 b
def Mr{t:Nat}(h:d≠t):Ad (a.put (some d) v) t=Ad a t:=by simp[Ad,Act.put,Array.getElem?_setIfInBounds_ne h]
def Tx(h:d<a.tmps.size):Ad (a.put (some d) v) d=v:=by simp[Ad,Act.put,h]
def S4{B:Ah P}{a c:Act}{w:AS}{H:HV}:∀{ps:A3 Bm} {cs:A3 AW},(∀t∈Oh ps,Ad c t=Ad a t)->Gz B a w H ps cs->Gz B c w H ps cs
 |[],_,_,h=>h
 |p::l,_,e,⟨v,rest,e1,E5,hv,hr⟩=>by cases p with|sm u=>exact⟨v,rest,e1,E5,⟨by rw[e u (by simp[Oh])];exact hv.1,hv.2⟩,S4 (λt f=>e t (by simp[Oh,f])) hr⟩|val _=>exact⟨v,rest,e1,E5,hv,S4 e hr⟩|any _ _=>exact⟨v,rest,e1,E5,hv,S4 e hr⟩|buf _ _ _=>exact⟨v,rest,e1,E5,hv,S4 e hr⟩|map _ _ _ _ _=>exact⟨v,rest,e1,E5,hv,S4 e hr⟩
def AT.Mx{B:Ah P}{a f:Act}{w:AS}{H:HV}{v:AW}:∀{s:AT},(∀t∈s.Bv,Ad f t=Ad a t)->s.holds B a w H v->s.holds B f w H v
 | .val _,_,h=>h| .tup _,_,h=>h| .own _ _,_,h=>h| .ptr t off,e,⟨b,h1,h2⟩=>⟨b,by rw[e t (by simp[AT.Bv])];exact h1,h2⟩| .opt c s,e,h=>⟨λj=>Mx (s:=s) e<|h.1 j,h.2⟩| .same t,e,h=>by show v=_;rw[e t (by simp[AT.Bv])];exact h| .IB t _ _,e,⟨b,len,cap,h1,h2⟩=>⟨b,len,cap,by rw[e t (by simp[AT.Bv])];exact h1,h2⟩| .bpf t _,e,⟨b,len,cap,h1,h2⟩=>⟨b,len,cap,by rw[e t (by simp[AT.Bv])];exact h1,h2⟩| .gone,_,h=>h| .buf _ _ _,_,h=>h| .LY _ _ _ _,_,h=>h| .Cg _ _ _,e,⟨c,cs,h1,h2,h3,h4,h5,h6⟩=>⟨c,cs,h1,h2,h3,h4,S4 e h5,h6⟩| .Fa _ _ _ _ _,_,h=>h| .Oz _ _ _ _,_,h=>h| .inv _,_,h=>h| .Qt t i,e,⟨x,h⟩=>⟨x,by rw[e t (by simp[AT.Bv])];exact h⟩
 | .vec k us,e,h=>by have:us.map (Ad f)=us.map (Ad a):=eG e;show v=Yw f k us;rw[show Yw f k us=Yw a k us by simp[Yw,this]];exact h
 | .IH t _,e,h=>by show Ad f t=_;rw[e t (by simp[AT.Bv])];exact h| .DN _ _,_,h=>h| .HI _ _,_,h=>h| .GK _ _ _,_,h=>h| .EA _ _ _ _,_,h=>h| .win t _ _ _,e,⟨g,len,cap,c,h1,h2⟩=>⟨g,len,cap,c,by rw[e t (by simp[AT.Bv])];exact h1,h2⟩| .Kl t _ _,e,⟨g,o,n,c,h1,h2⟩=>⟨g,o,n,c,by rw[e t (by simp[AT.Bv])];exact h1,h2⟩
def Hl(d:Nat)(Γ:Ctx):Bool:=Γ.all λp=>p.1 !=d&& !p.2.Bv.contains d
def Wt{A:Ctx}(h:Hl d A=true):∀p∈A,p.1≠d/\d∉p.2.Bv:=by intro p c;have:=DC.1 h p c;simpa using this
def put_defers{d:A9 Tmp}:(a.put d v).defers=a.defers:=by cases d<;>rfl
theorem uW{Γ:Ctx}(h:Sat w0 H0 N Γ a w H){s:AT}(n:d<N)(m:Hl d Γ=true)(o:d∉s.Bv)
 (r:s.holds w0 a w H v)(j:∀b,s.owns w v b->∀q∈Γ,¬q.2.owns w (Ad a q.1) b):Sat w0 H0 N ((d,s)::Γ) (a.put (some d) v) w H:=by
 have g:d<a.tmps.size:=h.sz▸n;have f:∀p∈Γ,d≠p.1/\d∉p.2.Bv:=λp c=>⟨λe=>(Wt m p c).1 e.symm,(Wt m p c).2⟩
 refine⟨by rw[put_defers];exact h.nd,by simp[Act.put,h.sz],h.below,h.FY,h.sub,?_,?_,h.gl⟩
 .intro p c;rcases Ak.1 c with e|c
  .subst e;simp[Tx g];exact AT.Mx (λt k=>Mr<|λe=>o<|e▸k) r
  .let⟨h1,h2⟩:=f p c;rw[Mr h1];exact AT.Mx (λt k=>Mr<|λe=>h2<|e▸k)<|h.holds p c
 .intro p c q i hne b hb DI;rcases Ak.1 c with e|c<;>rcases Ak.1 i with u|i
  .grind
  .subst e;simp[Tx g] at hb;rw[Mr (f q i).1] at DI;exact j b hb q i DI
  .subst u;simp[Tx g] at DI;rw[Mr (f p c).1] at hb;exact j b DI p c hb
  .rw[Mr (f p c).1] at hb;rw[Mr (f q i).1] at DI;exact h.sep p c q i hne b hb DI
def ba{Γ:Ctx}(h:Sat w0 H0 N Γ a w H)(c:Ext w H w' H'):Sat w0 H0 N Γ a w' H':=by
 refine⟨h.nd.kept λD _ e g=>⟨by rw[c.below.block D<|lt_of_heap e];exact e,by rw[c.FY D<|lt_of_heap e];exact g⟩,h.sz,h.below.step c.below,λi r f j=>?_,c.sub,?_,?_,h.gl.mono c.le⟩
 .rw[c.FY r<|I6 f h.below.size,h.FY i r f j]
 .intro p hp;exact AT.aiL c<|h.holds p hp
 .intro p hp q hq hne b hb DI;exact h.sep p hp q hq hne b ((AT.bk c (h.holds p hp) b).1 hb)<|(AT.bk c (h.holds q hq) b).1 DI
def Q2{Γ:Ctx}(h:Sat w0 H0 N Γ a w H)(e:Ext w H w' H')
 {s:AT}(g:d<N)(i:Hl d Γ=true)(j:d∉s.Bv)(k:s.holds w0 a w' H' v)(c:∀b,s.owns w' v b->w.heap.size<=b):Sat w0 H0 N ((d,s)::Γ) (a.put (some d) v) w' H':=
 uW (ba h e) g i j k λb m q f n=>by have o:=c b m;have r:=(AT.H8 (h.holds q f)<|(AT.bk e (h.holds q f) b).1 n).1;omega
def AT.free:AT->Bool
 | .own _ _=>false| .buf _ _ _=>false| .LY _ _ _ _=>false| .opt _ s=>s.free| .Cg _ _ _=>false| .Fa _ _ _ _ _=>false| .Oz _ _ _ _=>false| .inv _=>false| .DN _ _=>false| .HI _ _=>false| .GK _ _ _=>false| .EA _ _ _ _=>false|_=>true
def AT.free_spec{w:AS}{v:AW}{b:Nat}:∀{s:AT},s.free=true-> ¬s.owns w v b
 | .val _,_,h=>h| .tup _,_,h=>h| .ptr _ _,_,h=>h| .same _,_,h=>h| .IB _ _ _,_,h=>h| .bpf _ _,_,h=>h| .gone,_,h=>h| .IH _ _,_,h=>h| .vec _ _,_,h=>h| .Qt _ _,_,h=>h| .opt c s,e,h=>AT.free_spec (s:=s) e h.2| .own _ _,e,_=>by cases e| .buf _ _ _,e,_=>by cases e| .LY _ _ _ _,e,_=>by cases e| .Cg _ _ _,e,_=>by cases e| .Fa _ _ _ _ _,e,_=>by cases e| .Oz _ _ _ _,e,_=>by cases e| .inv _,e,_=>by cases e| .DN _ _,e,_=>by cases e| .HI _ _,e,_=>by cases e| .GK _ _ _,e,_=>by cases e| .EA _ _ _ _,e,_=>by cases e| .win _ _ _ _,_,h=>h| .Kl _ _ _,_,h=>h
theorem UJ{Γ Ar:Ctx}{ds:A3 Deferred}(e:Sat w0 H0 N Γ a w H)(j:Kept w0 w')(k:Fe w w')
 (g:w0.Gy=false->∀r,r<w0.n-> ¬w0.X r->H' r=H r)(m:w.heap.size<=w'.heap.size)(i:HV.le H H')(x:∀r o,H' r=some o->w'.heap[r]? =some o)
 (F:(∃p∈Ar,p.2.E8=true)->∀b,b<w.heap.size->b<w0.lo->w'.heap[b]? =w.heap[b]? /\H' b=H b)
 (s:∀p∈Ar,p∈Γ/\∀b,p.2.owns w (Ad a p.1) b->w'.heap[b]? =w.heap[b]? /\H' b=H b)(G:Marks w0 w' H' (ds++w0.ds)):Sat w0 H0 N Ar {a with defers:=ds} w' H':=by
 have far:∀p∈Ar,Far (if p.2.E8 then w0.lo else 0) (λb=>p.2.owns w (Ad a p.1) b) w H w' H':=λp h=>by
  have key:∀b,b<w.heap.size->(b<(if p.2.E8 then w0.lo else 0)\/p.2.owns w (Ad a p.1) b)->w'.heap[b]? =w.heap[b]? /\H' b=H b:=λb f c=>by
   rcases c with c|c
   .cases hi:p.2.E8 with|true=>rw[hi,if_pos rfl] at c;exact F ⟨p,h,hi⟩ b f c|false=>rw[hi] at c;simp at c
   .grind
  exact⟨m,j.os.trans e.below.os.symm,j.tape.trans e.below.tape.symm,j.output.trans e.below.output.symm,k,i,λb f c=>(key b f c).1,λb f c=>(key b f c).2,x⟩
 have t:∀p∈Ar,p.2.holds w0 a w' H' (Ad a p.1)/\∀b,p.2.owns w' (Ad a p.1) b↔p.2.owns w (Ad a p.1) b:=λp h=>AT.U7 (e.holds p (s p h).1) (λhi=>by rw[hi];rfl)<|far p h
 refine⟨G,e.sz,j,λy r z A=>(g y r z A).trans<|e.FY y r z A,x,?_,?_,e.gl.mono i⟩
 .exact λp h=>AT.Mx (a:=a) (λ_ _=>rfl) (t p h).1
 .exact λp h q C u b f I=>e.sep p (s p h).1 q (s q C).1 u b (((t p h).2 b).1 f)<|((t q C).2 b).1 I
theorem UK{sz:Nat}(h:Ih B w H E sz l v)(c:∀b,v.ownBlock=some b->B'.Da b):Ih B' w H E sz l v:=by grind [Ih,Ah.Da]
def xk{B B':Ah P}{w:AS}{H:HV}{Eb:Ap}{sz:Nat}:∀{i:Nat} {l:A3 (Ty×Cm)} {es:A3 MapEntry},II B w H Eb sz i l es->(∀b,GB b l es->B'.Da b)->II B' w H Eb sz i l es
 |_,[],[],_,_=>trivial|_,[],_::_,h,_=>h.elim|_,(_,_)::_,[],h,_=>h.elim
 |i,(k,e)::l,x::xs,⟨hk,he,hb,hr⟩,hx=>by refine⟨hk,?_,hb,xk hr λb h=>hx b<| .inr h⟩;cases e with|val τ=>exact he|any=>trivial|buf l=>exact UK he λb h=>hx b<| .inl h
def xz{sz:Nat}{c:A3 (Ty×Cm)}(h:Oj B w H Eb sz c v)(f:∀b,N4 w c v b->B'.Da b):Oj B' w H Eb sz c v:=by let⟨r,es,e,g,i,_,j,k⟩:=h;subst e;exact⟨r,es,rfl,g,i,f r<| .inl rfl,xk j λb h=>f b<| .inr ⟨r,es,rfl,g,h⟩,k⟩
def xi{B B':Ah P}{a:Act}{w:AS}{H:HV}:∀{ps:A3 Bm} {cs:A3 AW},Gz B a w H ps cs->(∀b,F7 w b ps cs->B'.Da b)->Gz B' a w H ps cs
 |[],_,h,_=>h
 |p::l,_,⟨v,rest,e,E5,hv,hr⟩,k=>by subst e;let⟨c,f⟩:=O4 (rest:=rest) E5;simp[F7,c,f] at k;refine⟨v,rest,rfl,E5,?_,xi hr λb h=>k b<| .inr h⟩;cases p with|val _=>exact hv|any _ _=>exact hv|sm _=>exact hv|buf _ _ _=>exact UK hv λb h=>k b<| .inl h|map _ _ _ _ _=>exact xz hv λb h=>k b<| .inl h
def AT.Pg{B B':Ah P}{a:Act}{w:AS}{H:HV}{v:AW}:∀{s:AT},s.E8=false->s.holds B a w H v->(∀b,s.owns w v b->B'.Da b)->s.holds B' a w H v
 | .val _,_,h,_=>h| .tup _,_,h,_=>h| .own _ _,_,⟨b,x,e,h1,h2,h3,_⟩,k=>⟨b,x,e,h1,h2,h3,k b ⟨_,e,rfl⟩⟩| .ptr _ _,_,h,_=>h| .opt c s,hi,h,k=>⟨λi=>AT.Pg (s:=s) hi (h.1 i) λb f=>k b ⟨i,f⟩,h.2⟩| .same _,_,h,_=>h| .IB _ _ _,_,h,_=>h| .bpf _ _,_,h,_=>h| .gone,_,h,_=>h| .buf _ _ _,_,h,k=>UK h k| .LY _ _ _ _,_,h,k=>UK h k| .Cg _ _ _,_,⟨c,cs,e,f,hn,_,ho,hs,hx⟩,k=>⟨c,cs,e,f,hn,k c ⟨c,e,.inl rfl⟩,xi ho λb h=>k b ⟨c,e,.inr ⟨cs,f,h⟩⟩,hs,hx⟩| .Fa _ _ _ _ _,_,h,k=>xz h k| .Oz _ _ _ _,_,⟨x,e,h⟩,k=>⟨x,e,UK h λb f=>k b ⟨x,_,e,f⟩⟩| .inv _,hi,_,_=>by cases hi| .IH _ _,_,h,_=>h| .vec _ _,_,h,_=>h| .Qt _ _,_,h,_=>h| .DN l _,_,⟨h1,h2,_⟩,k=>⟨h1,h2,k l rfl⟩| .HI _ _,_,⟨r,m,es,sn,e,h1,h2,_,h4⟩,k=>⟨r,m,es,sn,e,h1,h2,k r ⟨_,e,rfl⟩,h4⟩| .win _ _ _ _,_,h,_=>h| .Kl _ _ _,_,h,_=>h| .EA _ _ _ _,_,⟨g,c,cur,xs,e,f,i,ho,hn,_⟩,k=>⟨g,c,cur,xs,e,f,i,ho,hn,k g (by rw[e];rfl)⟩| .GK _ _ _,_,⟨c,p,r,e,f,hp,hn,_,ho,hx⟩,k=>⟨c,p,r,e,f,hp,hn,k c ⟨c,e,.inl rfl⟩,UK ho λb h=>k b ⟨c,e,.inr ⟨p,r,f,h⟩⟩,hx⟩
def AT.My{B:Ah P}{a:Act}{w:AS}{H:HV}{v:AW}{b:Nat}:∀{s:AT},s.E8=false->s.holds B a w H v->s.owns w v b->B.Da b
 | .val _,_,_,h=>h.elim| .tup _,_,_,h=>h.elim| .ptr _ _,_,_,h=>h.elim| .same _,_,_,h=>h.elim| .IB _ _ _,_,_,h=>h.elim| .bpf _ _,_,_,h=>h.elim| .gone,_,_,h=>h.elim| .IH _ _,_,_,h=>h.elim| .vec _ _,_,_,h=>h.elim| .Qt _ _,_,_,h=>h.elim
 | .own T τ,_,⟨c,x,e,hb,hx,hn,hB⟩,⟨ad,e',h⟩=>by subst e;cases e';cases h;exact hB
 | .buf _ _ _,_,h,k=>(GO h k).2.1| .LY _ _ _ _,_,h,k=>(GO h k).2.1
 | .Cg T _ ps,_,⟨c,cs,e,hb,hn,hB,ho,hs,hx⟩,⟨c',e',h⟩=>by
  subst e;cases e';rcases h with h|⟨i,f,h⟩
  .subst h;exact hB
  .rw[hb] at f;cases f;exact(Nz ho h).2.1
 | .Fa _ _ _ _ _,_,h,k=>(Q9 h k).2.1
 | .Oz _ _ _ _,_,⟨x,e,h⟩,⟨x',i',e',k⟩=>by rw[e] at e';cases e';exact(GO h k).2.1
 | .opt c s,hi,h,⟨hc,k⟩=>AT.My (s:=s) hi (h.1 hc) k| .inv _,hi,_,_=>by cases hi
 | .DN l _,_,⟨_,_,h3⟩,k=>by have k:b=l:=k;subst k;exact h3
 | .HI _ _,_,⟨r,m,es,sn,e,_,_,h3,_⟩,⟨ad,e',h⟩=>by subst e;cases e';cases h;exact h3
 | .win _ _ _ _,_,_,h=>h.elim| .Kl _ _ _,_,_,h=>h.elim
 | .EA _ _ _ _,_,⟨g,c,cur,xs,e,hb,_,_,hn,hB⟩,h=>by subst e;cases h;exact hB
 | .GK _ _ _,_,⟨c,p,r,e,hb,_,_,hB,ho,_⟩,⟨c',e',h⟩=>by
  subst e;cases e';rcases h with h|⟨j,n,f,h⟩
  .subst h;exact hB
  .have e2:=hb.symm.trans f;simp at e2;obtain⟨rfl,rfl⟩:=e2;exact(GO ho h).2.1
end
section
variable[D:DR]
variable{d:Nat}
def look:Ctx->Nat->A9 AT
 |[],_=>none
 |(k,s)::Γ,t=>match Nat.beq k t with|true=>some s|false=>look Γ t
def B8:∀{Γ:Ctx} {t:Nat} {s:AT},look Γ t=some s->(t,s)∈Γ
 |[],_,_,h=>by simp[look] at h
 |(k,s')::Γ,t,s,h=>by
  simp[look] at h;cases c:Nat.beq k t
  .rw[c] at h;exact Bg _<|B8 h
  .rw[c] at h;have:=DX c;simp at h;subst this;subst h;simp
def AT.JB(s:AT)(d:Nat):Bool:=s.Bv.any λt=>Nat.beq t d
def X2{s:AT}(h:s.JB d=false):d∉s.Bv:=λc=>by have:=Un.1 h d c;simp at this
theorem agN{s:AT}(h:d∉s.Bv):s.JB d=false:=by(simp_all [AT.Bv,AT.JB]<;>grind)
def del(d:Nat):Ctx->Ctx
 |[]=>[]|p::Γ=>bif Nat.beq p.1 d||p.2.JB d then del d Γ else p::del d Γ
def K0{d:Nat}:∀{Γ:Ctx},∀p∈del d Γ,p∈Γ
 |[],p,h=>by simp[del] at h
 |q::Γ,p,h=>by
  simp[del] at h;cases c:(Nat.beq q.1 d||q.2.JB d)
  .rw[c] at h;rcases Ak.1 h with e|h
   .simp[e]
   .exact Bg _<|K0 p h
  .rw[c] at h;exact Bg _<|K0 p h
def N1{d:Nat}:∀{Γ:Ctx},Hl d (del d Γ)=true
 |[]=>rfl
 |q::Γ=>by
  simp[del];cases c:(Nat.beq q.1 d||q.2.JB d)
  .simp[Av];have ih:=N1 (d:=d) (Γ:=Γ);simp[Hl,M3,Bq] at ih⊢;refine⟨?_,ih⟩;simp at c;refine⟨by simpa using Nat.ne_of_beq_eq_false c.1,?_⟩;simpa using X2 c.2
  .simpa using N1 (d:=d) (Γ:=Γ)
inductive Dm(Γ:Ctx):A3 Nat->Ctx->Prop where
 |nil:Dm Γ [] []|cons {t:Nat} {s:AT} {ts:A3 Nat} {Ar:Ctx} (h:look Γ t=some s) (r:Dm Γ ts Ar):Dm Γ (t::ts) ((t,s)::Ar)
def Dm.sub{Γ:Ctx}{f:A3 Nat}{Ar:Ctx}(h:Dm Γ f Ar):∀p∈Ar,p∈Γ:=by
 induction h with
 |nil=>simp
 |cons h _ ih=>
  intro p c;rcases Ak.1 c with e|c
  .subst e;exact B8 h
  .exact ih p c
theorem Dm.keys{Γ:Ctx}{c:A3 Nat}{Ar:Ctx}(h:Dm Γ c Ar):∀p∈Ar,p.1∈c:=by
 induction h with
 |nil=>simp
 |cons h _ ih=>
  intro p f;rcases Ak.1 f with e|f
  .subst e;simp
  .grind
def B0(P:Bz)(Γ:Ctx)(o:Oper)(s:AT):Prop:=
 ∀(w0:Ah P) (H0:HV) (N:Nat) (a:Act) (w:AS) (H:HV),Sat w0 H0 N Γ a w H->∀(K:Act->AS->Prop) (Q:Exit->Act->AS->Prop),(∀v w' H',Ext w H w' H'->s.holds w0 a w' H' v->(∀b,s.owns w' v b->w.heap.size<=b)->K (a.put o.dst v) w')->o.wp P a w K Q
def Step(P:Bz)(N:Nat)(ops:B9 Oper)(o:Oper)(Γ Ar:Ctx):Prop:=
 ∀(w0:Ah P) (H0:HV) (a:Act) (w:AS) (H:HV),Sat w0 H0 N Γ a w H->∀(K:Act->AS->Prop) (Q:Exit->Act->AS->Prop),(∀c w' H',Sat w0 H0 N Ar c w' H'->K c w')->if Region.wanted o (yielded ops a.tmps) then o.wp P a w K Q else K (a.put o.dst undef) w
end
section
variable[D:DR]
variable{P:Program}{N:Nat}{ops:Array Oper}{Γ Ar E0 Rn:Ctx}
variable{d:Nat}{s:AT}{j dj:Nat}{b:Bool}{H0:HV}{a:Act}{H:HV}{e want:Bool}
def Step.pure{o:Oper}(h:B0 P Γ o s)(f:o.guard=none)(g:o.dst=some d)(i:d<N)(m:Hl d Γ=true)(n:s.JB d=false):Step P N ops o Γ ((d,s)::Γ):=by
 intro w0 H0 a w H c K Q k;simp[Region.wanted,f,if_true];refine h w0 H0 N a w H c K Q λv w' H' q r t=>?_
 rw[g];exact k _ _ _<|Q2 c q i m (X2 n) r t
def Step.over{o:Oper}(h:B0 P Γ o s)(f:o.guard=none)(g:o.dst=some d)(i:d<N)(m:s.JB d=false):Step P N ops o Γ ((d,s)::del d Γ):=by
 intro w0 H0 a w H c K Q k;simp[Region.wanted,f,if_true];refine h w0 H0 N a w H c K Q λv w' H' n q r=>?_
 rw[g];exact k _ _ _<|Q2 (c.weaken K0) n i N1 (X2 m) q r
def gd(b:Bool):Bool->Bool
 |true=>b|false=> !b
def afo{w0:Ah P}{w:AS}(f:Sat w0 H0 N Γ a w H)(g:(ops[j]?).bind (·.dst)=some dj)(i:look Γ dj=some (.val<|Az b))(k:dj<N):yielded ops a.tmps j=some b:=by
 have h:=f.holds _<|B8 i
 have h:Ad a dj= .bool b:=h;have c:dj<a.tmps.size:=f.sz▸k;simp[yielded,g,Option.bind_some];simp[Ad,c] at h;simp[c,h]
def agz{o:Oper}{w0:Ah P}{w:AS}(c:Sat w0 H0 N Γ a w H)(f:o.guard=some (j,want))(g:(ops[j]?).bind (·.dst)=some dj)(h:look Γ dj=some (.val<|Az b))(i:dj<N):Region.wanted o (yielded ops a.tmps)=gd b want:=by simp[Region.wanted,f,afo c g h i];cases b<;>cases want<;>rfl
inductive Gu(Γ:Ctx)(e:Bool):Ctx->Prop where
 |nil:Gu Γ e []|v {t:Nat} {s:AT} {Ar:Ctx} (h:look Γ t=some s) (r:Gu Γ e Ar):Gu Γ e ((t,s)::Ar)|o {t:Nat} {s:AT} {c:Bool} {Ar:Ctx} (h:look Γ t=some (.opt c s)) (k:e=true->c=true) (r:Gu Γ e Ar):Gu Γ e ((t,s)::Ar)
def Gu.mem{Γ Ar:Ctx}(h:Gu Γ e Ar)(f:e=true):∀p∈Ar,p∈Γ\/(p.1,AT.opt true p.2)∈Γ:=by
 induction h with
 |nil=>simp
 |v h _ ih=>
  intro p c;rcases Ak.1 c with e|c
  .subst e;exact .inl<|B8 h
  .exact ih p c
 |o h k _ ih=>
  intro p c;rcases Ak.1 c with e|c
  .subst e;have:=k f;subst this;exact .inr<|B8 h
  .exact ih p c
theorem Gu.sat{Γ Ar:Ctx}(h:Gu Γ e Ar)(o:e=true){w0:Ah P}{N:Nat}{w:AS}(c:Sat w0 H0 N Γ a w H):Sat w0 H0 N Ar a w H:=by
 have key:∀p∈Ar,∃s,(p.1,s)∈Γ/\(s.holds w0 a w H (Ad a p.1)->p.2.holds w0 a w H (Ad a p.1))/\∀v b,p.2.owns w v b->s.owns w v b:=by
  intro p f;rcases h.mem o p f with h|h
  .grind
  .exact⟨_,h,λk=>k.1 rfl,λv b g=>⟨rfl,g⟩⟩
 refine⟨c.nd,c.sz,c.below,c.FY,c.sub,?_,?_,c.gl⟩
 .intro p f;let⟨s,i,r,_⟩:=key p f;exact r<|c.holds _ i
 .intro p f q hq hne b g DI;let⟨s,i,_,t⟩:=key p f;let⟨s',m,_,n⟩:=key q hq;exact c.sep _ i _ m hne b (t _ _ g)<|n _ _ DI
def opO{c:Ctx}{o:Oper}(g:Gu Γ e c)(h:e=true->B0 P c o s):e=true->B0 P Γ o s:=λf w0 H0 N a w H i K Q k=>h f w0 H0 N a w H (g.sat f i) K Q λv w' H' m n q=>k v w' H' m n q
structure Vj(ops:B9 Oper)(N:Nat)(Γ:Ctx)(o:Oper)(e:Bool):Prop where
 w:∀{P':Bz} (w0:Ah P') (H0:HV) (a:Act) (w:AS) (H:HV),Sat w0 H0 N Γ a w H->Region.wanted o (yielded ops a.tmps)=e
def Vj.v{o:Oper}(c:o.guard=some (j,want))(f:(ops[j]?).bind (·.dst)=some dj)(g:look Γ dj=some (.val<|Az b))(h:dj<N):Vj ops N Γ o (gd b want):=⟨λ_ _ _ _ _ i=>agz i c f g h⟩
def Vj.o{o:Oper}{j dj:Nat}{b c want:Bool}(g:o.guard=some (j,want))(i:(ops[j]?).bind (·.dst)=some dj)(m:look Γ dj=some (.opt c<| .val<|Az b))(n:dj<N):Vj ops N Γ o (c&&gd b want):=
 ⟨λ_ _ a _ _ k=>by
  have h:=k.holds _<|B8 m
  have f:dj<a.tmps.size:=k.sz▸n;cases c
  .have e:Ad a dj=undef:=h.2 rfl;simp[Ad,f] at e;have:yielded ops a.tmps j=none:=by simp[yielded,i,f,e,undef]
   simp[Region.wanted,g,this]
  .have e:Ad a dj= .bool b:=h.1 rfl;simp[Ad,f] at e;have:yielded ops a.tmps j=some b:=by simp[yielded,i,f,e]
   simp[Region.wanted,g,this,I3];cases b<;>cases want<;>rfl⟩
def Step.guarded{o:Oper}(i:Vj ops N Γ o e)
 (h:e=true->B0 P Γ o s)(n:o.dst=some d)(q:d<N)(r:Hl d Γ=true)(u:s.JB d=false):Step P N ops o Γ ((d,.opt e s)::Γ):=by
 intro w0 H0 a w H f K Q k;rw[i.w w0 H0 a w H f];have g:d∉(AT.opt e s).Bv:=X2 (s:=s) u;cases t:e
 .simp[SM,if_false];rw[n];subst t;exact k _ _ _ (Q2 f (Ext.refl f.sub) q r g ⟨(λe=>by cases e),λ_=>rfl⟩ (λc e=>by cases e.1))
 .simp[if_true];subst t;refine h rfl w0 H0 N a w H f K Q λv w' H' x y m=>?_
  rw[n];exact k _ _ _ (Q2 f x q r g ⟨(λ_=>y),(λe=>by cases e)⟩<|λc e=>m c e.2)
def QS(o:Oper):A3 Edge:=o.after.toList.filter<|Region.binds .any
def LS(ops:B9 Oper)(c:A3 (A3 Nat)):Bool:=
 (List.range ops.size).all λi=>match ops[i]? with
  |none=>false
  |some o=>((QS o).all λe=>decide<|e.on<i)&&
   (c.getD i []).all λj=>(QS o).any λe=>e.on==j||(c.getD e.on []).contains j
def OP(ops:B9 Oper)(k:Nat)(c:A3 (A3 Nat)):Bool:=decide (k<=ops.size)&&(List.range ops.size).all λi=>decide (i<k)||(List.range i).all λj=>(c.getD i []).contains j
def meets(x:A3 (Nat×A3 Nat))(l:A3 Nat):Bool:=x.any λp=>l.contains p.1
def R2(k:Nat)(c:A3 (A3<|Nat×A3 Nat))(g:A3 (A3 Nat))(h:A3 Bool)(L:A3 Nat)(f:A3 (A3 Nat)):Bool:=
 ((List.range k).all λj=>(List.range j).all λi=>(!(meets (c.getD i []) (g.getD j [])||meets (c.getD i []) ((c.getD j []).map (·.1))||meets (c.getD j []) (g.getD i [])))||(f.getD j []).contains i)&&
 ((List.range k).all λj=> !(h.getD j true)||(!(meets ((c.getD j []).take 1) L)&&(List.range k).all λi=>(c.getD i []).all λp=>p.2.all λt=>!(meets ((c.getD j []).take 1) [t])||(i !=j&&(meets (c.getD j []) [p.1]||(f.getD i []).contains j||(f.getD j []).any λm=>decide (i<m)&&meets (c.getD m []) [p.1]))||(i==j&& !(meets ((c.getD j []).take 1) [p.1]))))
def M9:Ctx->A3 Nat
 |[]=>[]|p::Γ=>p.2.Bv++M9 Γ
def ua:∀{Γ:Ctx} {q:Nat×AT} {t:Nat},q∈Γ->t∈q.2.Bv->t∈M9 Γ
 |p::Γ,q,t,h,e=>by
  rcases Ak.1 h with h|h
  .subst h;simp[M9,e]
  .have:=ua h e;simp[M9,this]
def BH(d:Nat):Ctx->Ctx
 |[]=>[]|p::Γ=>bif Nat.beq p.1 d then BH d Γ else p::BH d Γ
def Cp{d:Nat}:∀{Γ:Ctx},∀p∈BH d Γ,p∈Γ/\p.1≠d
 |[],p,h=>by simp[BH] at h
 |q::Γ,p,h=>by
  simp[BH] at h;cases c:Nat.beq q.1 d
  .rw[c] at h;rcases Ak.1 h with e|h
   .subst e;exact⟨by simp,Nat.ne_of_beq_eq_false c⟩
   .exact⟨Bg _ (Cp p h).1,(Cp p h).2⟩
  .rw[c] at h;exact⟨Bg _ (Cp p h).1,(Cp p h).2⟩
theorem N0{d:Nat}:∀{Γ:Ctx} {p:Nat×AT},p∈Γ->p.1≠d->p∈BH d Γ
 |q::Γ,p,h,hn=>by
  simp[BH];rcases Ak.1 h with e|h
  .subst e;cases c:Nat.beq p.1 d
   .simp
   .exact absurd (DX c) hn
  .have:=N0 h hn;cases Nat.beq q.1 d
   .grind
   .exact this
def Ma(P:Bz)(N:Nat)(ops:B9 Oper)(f:Ctx)(o:Oper)(t:Nat)(s:AT):Prop:=∀c:Ctx,(∀q∈f,q∈c)->Step P N ops o c ((t,s)::BH t c)
def iS(c:A3 Nat)(Γ:Ctx):Ctx:=Γ.filter λq=> !c.contains q.1
def XT{c:A3 Nat}{Γ:Ctx}{q:Nat×AT}:q∈iS c Γ↔q∈Γ/\q.1∉c:=by simp[iS]
def Nh(P:Bz)(N:Nat)(ops:B9 Oper)(f:Ctx)(o:Oper)(t d:Nat)(s:AT):Prop:=∀c:Ctx,(∀q∈f,q∈c)->Step P N ops o c ((d,s)::del d (BH t c))
def iU(P:Bz)(N:Nat)(ops:B9 Oper)(f:Ctx)(o:Oper)(t:Nat)(s':AT)(d:Nat)(s:AT):Prop:=∀c:Ctx,(∀q∈f,q∈c)->Step P N ops o c ((d,s)::(t,s')::del d (BH t c))
def abb(P:Bz)(N:Nat)(ops:B9 Oper)(f:Bool)(c h:Ctx)(o:Oper):Prop:=∀g:Ctx,(∀q∈h,q∈g)->(f=true->∀q∈g,q.1∉c.map (·.1)->∀p∈c.take 1,p.1∉q.2.Bv)->(f=true->∀q∈c.take 1,∀p∈c.take 1,p.1∉q.2.Bv)->∃Ar:Ctx,Step P N ops o g Ar/\∀q,q∈c++iS (c.map (·.1)) g->q∈Ar
inductive E4(P:Bz)(N:Nat)(ops:B9 Oper)(Γ:Ctx):A3 Ctx->A3 Oper->A3 (A3 Nat)->A3 Bool->A3 Ctx->Prop where
 |nil {acc:A3 Ctx}:E4 P N ops Γ acc [] [] [] acc
 |gen {acc S:A3 Ctx} {Al c:Ctx} {o:Oper} {l:A3 Oper} {ts:A3 Nat} {ER:A3 (A3 Nat)} {put:Bool} {EJ:A3 Bool}
   (hs:Dm (acc.flatten++Γ) ts Al) (h:abb P N ops put c Al o) (r:E4 P N ops Γ (c::acc) l ER EJ S):E4 P N ops Γ acc (o::l) (ts::ER) (put::EJ) S
theorem afU{A B:Ctx}{t:Nat}(h:look (A++B) t=some s):look A t=some s\/((∀q∈A,q.1≠t)/\look B t=some s):=by
 induction A with
 |nil=>exact .inr ⟨(λq c=>by cases c),h⟩
 |cons p A ih=>
  let⟨k,s'⟩:=p;simp only[OJ,look] at h⊢;cases f:Nat.beq k t
  .rw[f] at h;rcases ih h with h|⟨g,i⟩
   .exact .inl h
   .refine .inr ⟨λq c=>?_,i⟩;rcases Ak.1 c with e|c
    .subst e;exact Nat.ne_of_beq_eq_false f
    .exact g q c
  .grind
def At(Γ:Ctx)(S:A3 Ctx)(i:Nat)(q:Nat×AT):Prop:=(∃j c,j<i/\S[j]? =some c/\q∈c/\∀g f,j<g->g<i->S[g]? =some f->∀h∈f,h.1≠q.1)\/(q∈Γ/\∀j f,j<i->S[j]? =some f->∀h∈f,h.1≠q.1)
theorem mH{Γ:Ctx}{t:Nat}{s:AT}{S:A3 Ctx}:∀{acc:A3 Ctx},(∀j,j<acc.length->S[j]? =acc.reverse[j]?)->look (acc.flatten++Γ) t=some s->At Γ S acc.length (t,s)
 |[],_,h=> .inr ⟨B8 (by simpa using h),λj i k=>by simp at k⟩
 |c::acc,hS,h=>by
  have m:S[acc.length]? =some c:=by grind
  rw[List.flatten_cons,Fz] at h;rcases afU h with h|⟨r,n⟩
  .exact .inl ⟨acc.length,c,by simp,m,B8 h,λg i o f=>by simp at f;omega⟩
  .have ih:=mH (acc:=acc) (λj k=>by rw[hS j (by simp;omega),List.reverse_cons,K4 (by simpa using k)]) n
   rcases ih with⟨j,c0,k1,k2,k3,k4⟩|⟨k1,k2⟩
   .refine .inl ⟨j,c0,by simp;omega,k2,k3,λg i o f q=>?_⟩;simp at f;by_cases e:g=acc.length
    .grind
    .grind
   .refine .inr ⟨k1,λg i f q=>?_⟩;simp at f;by_cases e:g=acc.length
    .grind
    .grind
structure aaR(P:Bz)(N:Nat)(ops:B9 Oper)(Γ:Ctx)(ts:A3 Nat)(put:Bool)(S:A3 Ctx)(i:Nat)(o:Oper)(c:Ctx):Prop where
 exec:∃Al:Ctx,abb P N ops put c Al o/\∀q∈Al,q.1∈ts/\At Γ S i q
def Dm.looks{Γ:Ctx}{f:A3 Nat}{Ar:Ctx}(h:Dm Γ f Ar):∀p∈Ar,look Γ p.1=some p.2:=by
 induction h with
 |nil=>simp
 |cons h _ ih=>
  intro p c;rcases Ak.1 c with e|c
  .subst e;exact h
  .exact ih p c
def xd{f:Ctx}(h:∀q∈f,q.1≠d->d∉q.2.Bv):Hl d (BH d f)=true:=by simp only[Hl,DC,Bq,Jv,ne_eq];exact λq c=>⟨(Cp q c).2,by simpa using h q (Cp q c).1 (Cp q c).2⟩
def Sat.anE{P:Bz}{w0:Ah P}{w:AS}(c:Sat w0 H0 N Γ a w H)(t:Nat):Sat w0 H0 N ((t,.gone)::Γ) a w H:=by
 refine⟨c.nd,c.sz,c.below,c.FY,c.sub,?_,?_,c.gl⟩
 .intro p f;rcases Ak.1 f with e|f
  .subst e;trivial
  .exact c.holds p f
 .intro p f q hq hne b hb DI;rcases Ak.1 f with e|f
  .subst e;exact hb.elim
  .rcases Ak.1 hq with e|hq
   .subst e;exact DI.elim
   .exact c.sep p f q hq hne b hb DI
def Step.gone{o:Oper}(h:Step P N ops o Γ Ar)(t:Nat):Step P N ops o Γ ((t,.gone)::Ar):=λw0 H0 a w H c K Q k=>h w0 H0 a w H c K Q λf w' H' g=>k f w' H'<|g.anE t
def Step.aaq{o:Oper}(h:Step P N ops o Γ Ar):∀c:A3 Nat,Step P N ops o Γ ((c.map λu=>(u,AT.gone))++Ar)
 |[]=>h|u::c=>(Step.aaq h c).gone u
theorem pE{c:Ctx}{p q:Nat×AT}(h:q∈[p]++iS ([p].map (·.1)) c):q∈p::BH p.1 c:=by
 rcases Bi.1 h with h|h
 .grind
 .let⟨h1,h2⟩:=XT.1 h;exact Bg _ (N0 h1 (by simpa using h2))
theorem Q8{d:Nat}:∀{Γ:Ctx} {p:Nat×AT},p∈Γ->p.1≠d->d∉p.2.Bv->p∈del d Γ
 |q::Γ,p,h,hn,hl=>by
  simp[del];have f:(Nat.beq p.1 d||p.2.JB d)=false:=by rw[Ie];exact⟨by cases c:Nat.beq p.1 d;rfl;exact absurd (DX c) hn,agN hl⟩
  rcases Ak.1 h with e|h
  .grind
  .have:=Q8 h hn hl;cases(Nat.beq q.1 d||q.2.JB d)
   .grind
   .exact this
def E4.at_{acc:A3 Ctx}{l:A3 Oper}{k:A3 (A3 Nat)}{m:A3 Bool}{S:A3 Ctx}(h:E4 P N ops Γ acc l k m S):(∃f,S=f++acc/\f.length=l.length)/\k.length=l.length/\m.length=l.length/\∀(i:Nat) (o:Oper) (u:A3 Nat) (g:Bool),l[i]? =some o->k[i]? =some u->m[i]? =some g->∃p,S.reverse[acc.length+i]? =some p/\aaR P N ops Γ u g S.reverse (acc.length+i) o p:=by
 have step:∀{acc:A3 Ctx} {c:Ctx} {l:A3 Oper} {S:A3 Ctx},(∃f,S=f++c::acc/\f.length=l.length)->(∃f,S=f++acc/\f.length=l.length+1)/\S.reverse[acc.length]? =some c/\∀j,j<acc.length->S.reverse[j]? =acc.reverse[j]? :=by rintro acc c l S ⟨f,rfl,F⟩;refine⟨⟨f++[c],by simp,by simp[F]⟩,by simp,λj G=>?_⟩;simp[List.reverse_append,List.reverse_cons,Fz];rw[K4 (by simpa using G)]
 induction h with
 |nil=>exact⟨⟨[],by simp⟩,rfl,rfl,λi o _ _ h=>by simp at h⟩
 | @gen acc S Al c o l u k g m hs h r ih=>
  let⟨I,J,K,L⟩:=ih;let⟨k1,M,k3⟩:=step I;refine⟨by simpa using k1,by simp[J],by simp[K],?_⟩;intro i O x y hi n t;cases i with
  |zero=>simp at hi n t;subst hi;subst n;subst t;exact⟨c,by simpa using M,⟨Al,h,λq C=>⟨hs.keys q C,by simpa using mH k3 (hs.looks q C)⟩⟩⟩
  |succ i=>
   simp at hi n t;let⟨p,z,A⟩:=L i O x y hi n t;have e:acc.length+(i+1)=(c::acc).length+i:=by simp;omega
   rw[e];exact⟨p,z,A⟩
end
section
variable[D:DR]
variable{P:Program}{N:Nat}{ops:Array Oper}{Γ Ar E0 Rn:Ctx}
variable{acc S:List Ctx}{Γ Al:Ctx}{o:Oper}{l:List Oper}{ts:List Nat}{ER:List (List Nat)}{EJ:List Bool}{t d u:Nat}{s s' su:AT}{e:Bool}(gs:List Nat)(hs:Dm (acc.flatten++Γ) ts Al)
include hs
def E4.cons(h:B0 P Al o s)(k:o.guard=none)(m:o.dst=some d)(n:d<N)(r:E4 P N ops Γ ([(d,s)]::acc) l ER EJ S):E4 P N ops Γ acc (o::l) (ts::ER) (true::EJ) S:=by
 refine .gen hs (λx y f g=>?_) r;refine⟨(d,s)::BH d x,?_,λq c=>pE c⟩;intro w0 H0 a w H i K Q kk;simp[Region.wanted,k,if_true];refine h w0 H0 N a w H (i.weaken y) K Q λv w' H' z A C=>?_
 rw[m];exact kk _ _ _ (Q2 (i.weaken λq c=>(Cp q c).1) z n (xd λq c F=>f rfl q c (by simpa using F) (d,s) (by simp)) (g rfl (d,s) (by simp) (d,s) (by simp)) A C)
def E4.guarded(m:Vj ops N Al o e)(h:e=true->B0 P Al o s)(A:o.dst=some d)(C:d<N)(r:E4 P N ops Γ ([(d,.opt e s)]::acc) l ER EJ S):E4 P N ops Γ acc (o::l) (ts::ER) (true::EJ) S:=by
 refine .gen hs (λn F x y=>?_) r;refine⟨(d,.opt e s)::BH d n,?_,λq f=>pE f⟩;intro w0 H0 a w H k K Q kk;rw[m.w w0 H0 a w H<|k.weaken F];have g:=k.weaken (Ar:=BH d n) λq f=>(Cp q f).1
 have i:Hl d (BH d n)=true:=xd λq f J=>x rfl q f (by simpa using J) (d,.opt e s) (by simp)
 have G:d∉(AT.opt e s).Bv:=y rfl (d,.opt e s) (by simp) (d,.opt e s) (by simp);cases I:e
 .simp[SM,if_false];rw[A];subst I;exact kk _ _ _ (Q2 g (Ext.refl k.sub) C i G ⟨(λe=>by cases e),λ_=>rfl⟩ (λc e=>by cases e.1))
 .simp[if_true];subst I;refine h rfl w0 H0 N a w H (k.weaken F) K Q λv w' H' L M z=>?_
  rw[A];exact kk _ _ _ (Q2 g L C i G ⟨(λ_=>M),(λe=>by cases e)⟩<|λc e=>z c e.2)
def E4.store(h:Ma P N ops Al o t s)(r:E4 P N ops Γ ([(t,s)]::acc) l ER EJ S):E4 P N ops Γ acc (o::l) (ts::ER) (false::EJ) S:=.gen hs (λc f _ _=>⟨_,h c f,λq g=>pE g⟩) r
theorem E4.arz(h:Nh P N ops Al o t d s)(r:E4 P N ops Γ (((d,s)::(t,.gone)::gs.map λu=>(u,.gone))::acc) l ER EJ S):E4 P N ops Γ acc (o::l) (ts::ER) (true::EJ) S:=by
 refine .gen hs (λg i f _=>⟨_,((h g i).aaq gs).gone t,λq c=>?_⟩) r;rcases Bi.1 c with c|c
 .grind
 .let⟨m1,m2⟩:=XT.1 c;have k:=m2;simp[JT,Ak,not_or] at m2;refine Bg _<|QN _<|Bg _<|Q8 (N0 m1 m2.2.1) m2.1 ?_
  exact f rfl q m1 k (d,s) (by simp)
theorem E4.two(h:iU P N ops Al o t s' d s)(r:E4 P N ops Γ ([(d,s),(t,s')]::acc) l ER EJ S):E4 P N ops Γ acc (o::l) (ts::ER) (true::EJ) S:=by
 refine .gen hs (λg i f _=>⟨_,h g i,λq c=>?_⟩) r;rcases Bi.1 c with c|c
 .grind
 .let⟨m1,m2⟩:=XT.1 c;have k:=m2;simp[JT,Y1,Ak,QL,or_false,not_or] at m2;exact Bg _ (Bg _ (Q8 (N0 m1 m2.2) m2.1 (f rfl q m1 k (d,s) (by simp))))
end
section
variable[D:DR]
variable{P:Bz}{w:AS}{o:Oper}{n:Nat}{l:A3 Oper}
def GX{P:Bz}(w0:Ah P)(N:Nat)(Γ E0:Ctx):Prop:=∀(H0:HV) (a:Act) (w:AS) (H:HV),Sat w0 H0 N Γ a w H->∃H',Sat w0 H0 N E0 a w H'
inductive HK(P:Bz)(w0:Ah P)(N:Nat)(ops:B9 Oper):A3 Oper->Ctx->Ctx->Prop where
 |done {Γ:Ctx}:HK P w0 N ops [] Γ Γ|fin {Γ Ar:Ctx} {ts:A3 Nat} (h:Dm Γ ts Ar):HK P w0 N ops [] Γ Ar|cons {Γ E0 Rn:Ctx} {o:Oper} {l:A3 Oper} (h:Step P N ops o Γ E0) (r:HK P w0 N ops l E0 Rn):HK P w0 N ops (o::l) Γ Rn|ghost {Γ E0 Rn:Ctx} {l:A3 Oper} (h:GX w0 N Γ E0) (r:HK P w0 N ops l E0 Rn):HK P w0 N ops l Γ Rn
def Eo(c:A9 Nat):Fence:={fn:=λ_=>True,depth:=none,alive:=false,round:=c}
def aaI{c:A9 Nat}{f:FuncId}{args:B9 AW}{R:Ending->AS->Prop}(h:Calls P f args w R):CallsIn (Eo c) n P f args w R:=(callsIn_wide (n:=n)).2 h
def Xo{f:A9 Nat}{a:Act}{K:Act->AS->Prop}{Q:Exit->Act->AS->Prop}(g:∀c,o.op≠ .defer c)(h:o.wp P a w K Q):o.wpIn (Eo f) 0 P a w K Q:=by
 refine⟨λ_ _=>trivial,?_⟩;rw[Oper.semAt_eq _ _ _ g];unfold Oper.wp at h
 generalize (execOp a.eval o).run P w=r at*
 cases r with
 |ok n w'=>
  cases n<;>simp[Oper.upon] at h<;>first
   |exact h|exact h.elim|exact⟨(λe=>by cases e),aaI h⟩|exact⟨(λe=>by cases e),λc cs _=>let⟨v,i,r1,s⟩:=h c cs;⟨v,i,r1,stepsIn_wide.2 s⟩⟩
 |halt x w'=>cases x<;>simp[Oper.upon] at h⊢ <;>exact h
def CallsIn.aag{F:Fence}{f:FuncId}{args:B9 AW}{R c:Ending->AS->Prop}(h:CallsIn F n P f args w R)(g:∀e w',R e w'->c e w'):CallsIn F n P f args w c:=⟨h.1,λcs i=>let⟨e,w',fr,r,s⟩:=h.2 cs i;⟨e,w',fr,g _ _ r,s⟩⟩
def tW{F:Fence}{a:Act}{K i:Act->AS->Prop}{Q:Exit->Act->AS->Prop}(h:∀a w,K a w->i a w)(c:o.wpIn F n P a w K Q):o.wpIn F n P a w i Q:=by
 refine⟨c.1,?_⟩;have c:=c.2
 generalize (o.semAt F.round a.eval).run P w=r at*
 cases r with
 |ok n w'=>
  cases n<;>simp[Oper.uponIn] at c⊢ <;>
   first
    |exact h _ _ c|exact⟨c.1,CallsIn.aag c.2 (λe g f=>by cases e<;>first|exact h _ _ f|exact f)⟩
    |exact⟨c.1,RowsIn.mono c.2<|λ_ _ f=>h _ _ f⟩|exact⟨c.1,RoundIn.mono c.2 (λe g f=>by cases e<;>first|exact h _ _ f|exact f)⟩
 |halt x w'=>cases x<;>simp only[Oper.uponIn] at c⊢ <;>exact c
def Hn(l:A3 Oper):Bool:=l.all λo=>match o.op with| .defer _=>false|_=>true
def lU(h:Hn l=true)(f:o∈l):∀c,o.op≠ .defer c:=λc e=>by have:=DC.1 h o f;simp[e] at this
theorem vG(h:Hn (o::l)=true):Hn l=true:=by grind [Hn]
def HK.sound{w0:Ah P}{N:Nat}{ops:B9 Oper}{Γ Ar:Ctx}(h:HK P w0 N ops l Γ Ar):Hn l=true->∀(H0:HV) (a:Act) (w:AS) (H:HV),Sat w0 H0 N Γ a w H->∀(Q:Exit->Act->AS->Prop),(∀c w' H',Sat w0 H0 N Ar c w' H'->Q .normal c w')->wpListIn (Eo w0.rd) 0 P ops Q l a w:=by
 induction h with
 |done=>exact λ_ _ _ _ H hs _ k=>k _ _ H hs|fin h=>exact λ_ _ _ _ H hs _ k=>k _ _ H<|hs.weaken h.sub
 | @cons _ _ _ o l h _ ih=>
  intro f H0 a w H hs Q k;have g:=h w0 H0 a w H hs (wpListIn (Eo w0.rd) 0 P ops Q l) Q λc w' H' i=>ih (vG f) H0 c w' H' i Q k
  unfold wpListIn;split
  .rename_i hw;rw[if_pos hw] at g;exact Xo (lU f (by simp)) g
  .rename_i hw;rw[if_neg hw] at g;exact⟨λ_ _=>trivial,g⟩
 |ghost h _ ih=>intro f H0 a w H hs Q k;let⟨H',i⟩:=h H0 a w H hs;exact ih f H0 a w H' i Q k
end
section
variable[D:DR]
variable{P:Program}{ops:Array Oper}{Q:Exit->Act->World->Prop}{F:Fence}
def Og(F:Fence)(P:Bz)(ops:B9 Oper)(Q:Exit->Act->AS->Prop)(i:Nat)(K:Act->AS->Prop)(a:Act)(w:AS):Prop:=
 match ops[i]? with|none=>K a w|some o=>if Region.wanted o (yielded ops a.tmps) then o.wpIn F 0 P a w K Q else(∀f,o.about P w a.eval=some f->F.fn f)/\K (a.put o.dst undef) w
def NG(F:Fence)(P:Bz)(ops:B9 Oper)(Q:Exit->Act->AS->Prop):Nat->B9 Bool->Act->AS->Prop
 |0,listed,a,w=>Region.ready .any ops listed=[]/\Q .normal a w
 |fuel+1,listed,a,w=>
  (Region.ready .any ops listed=[]->Q .normal a w)/\
  ∀i∈Region.ready .any ops listed,Og F P ops Q i (NG F P ops Q fuel<|listed.setIfInBounds i true) a w
def aer(i:Nat)(rest:A3 Nat)(a:Act)(w:AS):wpOpsIn F 0 P ops Q (i::rest) a w=Og F P ops Q i (wpOpsIn F 0 P ops Q rest) a w:=by cases h:ops[i]? <;>simp[wpOpsIn,Og,h]
def afp{i:Nat}{a:Act}{w:AS}{K f:Act->AS->Prop}(h:∀a w,K a w->f a w)(c:Og F P ops Q i K a w):Og F P ops Q i f a w:=by
 unfold Og at*;split
 .exact h _ _ (by simpa[*] using c)
 .rename_i o ho;simp[ho] at c;split
  .rename_i hw;simp[hw,if_true] at c;exact tW h c
  .rename_i hw;simp[hw] at c;exact⟨c.1,h _ _ c.2⟩
def aeL:∀(fuel t:Nat) (c:B9 Bool) (a:Act) (w:AS),NG F P ops Q fuel c a w->wpOpsIn F 0 P ops Q (Region.linearise.go .any ops fuel t c []) a w:=by
 intro fuel
 induction fuel with
 |zero=>intro t c a w h;simpa[Region.linearise.go,wpOpsIn] using h.2
 |succ fuel ih=>
  intro t c a w h;let⟨k,m⟩:=h;simp only[Region.linearise.go];change wpOpsIn F 0 P ops Q (match(Region.ready .any ops c)[t%(Region.ready .any ops c).length]? with|some i=>Region.linearise.go .any ops fuel (t/(Region.ready .any ops c).length) (c.setIfInBounds i true) [i]|none=>[].reverse) a w
  cases hi:(Region.ready .any ops c)[t%(Region.ready .any ops c).length]? with
  |none=>
   have f:Region.ready .any ops c=[]:=by
    cases q:Region.ready .any ops c with
    |nil=>rfl
    |cons x xs=>rw[q] at hi;have g:t%(x::xs).length<(x::xs).length:=M1 _ (by simp);simp at hi;simp at g;omega
   simpa[wpOpsIn] using k f
  |some i=>simp[];rw[linearise_go_acc,List.reverse_singleton,List.singleton_append,aer];exact afp (λa w=>ih _ _ a w)<|m i<|HC hi
def acn{id:Nat}{a:Act}{w:AS}(c:P.follows .mixedOrders=true)
  (h:NG F P ops Q ops.size (Array.replicate ops.size false) a {w with drawn:=w.drawn+1}):(Code.region id ops true).wpIn F 0 P Q a w:=
 wpIn_region_draw λt=>by simp[Region.schedule,c,Y0,if_true];exact aeL ops.size t _ a _ h
end
section
variable[D:DR]
variable{P:Program}{N:Nat}{ops:Array Oper}{Γ Ar:Ctx}
variable{listed:B9 Bool}{i:Nat}{av:A3 (A3 Nat)}{Q:Exit->Act->AS->Prop}{k:Nat}{S:A3 Ctx}{a:Act}{w:AS}{c:Ctx}{ER:A3 (A3 Nat)}{EJ:A3 Bool}{kl:A3 (A3<|Nat×A3 Nat)}{L:A3 Nat}{Gw:Ctx}{ts:A3 Nat}{w0:Ah P}{H0:HV}
def D9(listed:B9 Bool)(i:Nat):Prop:=listed.getD i false=true
def zx(h:i<listed.size):listed.getD i true=listed.getD i false:=by simp[h]
def UD(hs:listed.size=ops.size):i∈Region.ready .any ops listed↔∃o,ops[i]? =some o/\ ¬D9 listed i/\∀e∈QS o,D9 listed e.on:=by
 simp only[Region.ready,EG,OG];constructor
 .rintro⟨hi,h⟩;have f:i<listed.size:=hs▸hi;rw[zx f] at h;simp[Bq,F6] at h;let⟨r,q⟩:=h;refine⟨ops[i],by simp[hi],by simp[D9];simpa using r,?_⟩;simp only[hi,getElem?_pos,NC,Y9] at q;intro e m;have:=Array.all_eq_true'.1 q e (by simpa using(EG.1 m).1);have g:=(EG.1 m).2;simp[g] at this;simpa[D9] using this
 .rintro⟨o,ho,hl,m⟩;have hi:i<ops.size:=(QP.1 ho).1;have f:i<listed.size:=hs▸hi;refine⟨hi,?_⟩;rw[zx f];simp only[Bq,F6,ho,NC,Y9];refine⟨by simpa[D9] using hl,?_⟩;rw[Array.all_eq_true'];intro e x;by_cases g:Region.binds .any e=true
  .have:=m e (EG.2 ⟨by simpa using x,g⟩);simp[D9] at this;simp[this]
  .simp at g;simp[g]
def OM{j:Nat}(hi:i<listed.size):D9 (listed.setIfInBounds i true) j↔(j=i\/D9 listed j):=by
 simp[D9,SX];by_cases e:i=j
 .subst e;simp[hi]
 .rw[Array.getElem?_setIfInBounds_ne e];constructor
  .exact λh=> .inr h
  .rintro(h|h)
   .exact absurd h.symm e
   .exact h
def unl(listed:B9 Bool):Nat:=listed.toList.count false
def yp(hi:i<listed.size)(f: ¬D9 listed i):unl (listed.setIfInBounds i true)+1=unl listed:=by
 have g:listed.toList[i]'(by simpa using hi)=false:=by simp[D9,hi] at f;simpa using f
 have h:0<listed.toList.count false:=List.count_pos_iff.2 (by rw[<-g];exact Ja _);simp only[unl,eh];rw[List.count_set (by simpa using hi),g];simp only[beq_self_eq_true,if_true];have:(true==false)=false:=rfl;rw[this];simp only[SM,if_false];omega
def xF(h:unl listed=0)(hi:i<listed.size):D9 listed i:=by
 have:=List.count_eq_zero.1 h;have f:listed[i]∈listed.toList:=by simp
 simp[D9,hi,SX,getElem?_pos,Y9];cases g:listed[i]
 .rw[g] at f;exact absurd f this
 .rfl
theorem aAh(f:LS ops av=true){o:Oper}(g:ops[i]? =some o){e:Edge}(h:e∈QS o):e.on<i:=by grind [LS,QS]
def jE{n m:Nat}: ¬D9 (Array.replicate n false) m:=by simp[D9,SX,Array.getElem?_replicate];split<;>simp
def uy(g:LS ops av=true)(hs:listed.size=ops.size)(hi:i<ops.size)(q: ¬D9 listed i):Region.ready .any ops listed≠[]:=by
 have key:∀m,∀i,i<=m->i<ops.size-> ¬D9 listed i->∃j,j∈Region.ready .any ops listed:=by
  intro m
  induction m with
  |zero=>
   intro i x hi q;have:i=0:=by omega
   subst this;refine⟨0,(UD hs).2 ⟨ops[0],by simp[hi],q,?_⟩⟩;intro e r;have:=aAh g (i:=0) (o:=ops[0]) (by simp[hi]) r;omega
  |succ m ih=>
   intro i x hi q;by_cases f:∀e∈QS ops[i],D9 listed e.on
   .exact⟨i,(UD hs).2 ⟨ops[i],by simp[hi],q,f⟩⟩
   .have⟨e,r,hne⟩:∃e,e∈QS ops[i]/\ ¬D9 listed e.on:=by apply CB;intro z;exact f λe r=>CB λh=>z ⟨e,r,h⟩
    have:=aAh g (i:=i) (o:=ops[i]) (by simp[hi]) r;exact ih e.on (by omega) (by omega) hne
 let⟨j,y⟩:=key i i (BJ _) hi q;intro e;rw[e] at y;cases y
def nF(h:LS ops av=true)(hs:listed.size=ops.size)(y:∀m,D9 listed m->∀j∈av.getD m [],D9 listed j)(hi:i∈Region.ready .any ops listed):∀j∈av.getD i [],D9 listed j:=by
 let⟨o,r,A,x⟩:=(UD hs).1 hi;have q:=(QP.1 r).1;have:=DC.1 h i (by simp[q]);simp only[r,Bq,DC,Y8] at this;intro j z;let⟨e,g,f⟩:=this.2 j z;simp[OH,N5,SS] at f;rcases f with f|f
 .exact f▸x e g
 .exact y e.on (x e g) j f
def akx{f:A9 Nat}{o:Oper}{K:Act->AS->Prop}(g:ops[i]? =some o)(m:∀c,o.op≠ .defer c)
 (h:if Region.wanted o (yielded ops a.tmps) then o.wp P a w K Q else K (a.put o.dst undef) w):Og (Eo f) P ops Q i K a w:=by
 unfold Og;simp[g];split
 .rename_i hw;rw[if_pos hw] at h;exact Xo m h
 .rename_i hw;rw[if_neg hw] at h;exact⟨λ_ _=>trivial,h⟩
def ahH{F:Fence}(h:Q .normal a w)(fuel:Nat)(listed:B9 Bool)(g:listed.size=ops.size)(q:∀j,j<ops.size->D9 listed j):NG F P ops Q fuel listed a w:=by
 have m:Region.ready .any ops listed=[]:=by apply List.eq_nil_iff_forall_not_mem.2;intro i hi;let⟨o,r,x,_⟩:=(UD g).1 hi;exact x<|q i (QP.1 r).1
 cases fuel with|zero=>exact⟨m,h⟩|succ f=>exact⟨λ_=>h,λi hi=>by rw[m] at hi;cases hi⟩
def aft{F:Fence}(y:LS ops av=true)(Z:OP ops k av=true):∀(l:A3 Oper)
  (i fuel:Nat) (listed:B9 Bool) (a:Act) (w:AS),l=ops.toList.drop i->k<=i->i<=ops.size->listed.size=ops.size->(∀j,j<ops.size->(D9 listed j↔j<i))->(∀m,D9 listed m->∀j∈av.getD m [],D9 listed j)->unl listed<=fuel->wpListIn F 0 P ops Q l a w->NG F P ops Q fuel listed a w:=by
 intro l
 induction l with
 |nil=>
  intro i fuel listed a w C U hi g G R hu q;have:ops.size<=i:=by simpa using List.drop_eq_nil_iff.1 C.symm
  exact ahH q fuel listed g (λj z=>(G j z).2 (by omega))
 |cons o l ih=>
  intro i fuel listed a w C U hi g G R hu q;have I:i<ops.size:=by apply CB;intro hge;rw[List.drop_eq_nil_of_le (by simp<;>omega)] at C;cases C
  have A: ¬D9 listed i:=λh=>by have:=(G i I).1 h;omega
  have ho:ops[i]? =some o:=by
   have:(ops.toList.drop i)[0]? =some o:=by rw[<-C];rfl
   simpa using this
  have V:l=ops.toList.drop (i+1):=by have:=congrArg List.tail C;simpa using this
  have J:=uy y g I A;have only:∀j∈Region.ready .any ops listed,j=i:=by
   intro j z;let⟨o',Yi,hn,_⟩:=(UD g).1 z;have K:=(QP.1 Yi).1;have M:i<=j:=by apply CB;intro hlt;exact hn ((G j K).2 (by omega))
   have W:=nF y g R z;simp[OP,Bq,DC,OG,OH,Um,SS] at Z;rcases Z.2 j K with O|O
   .omega
   .apply CB;intro J;have:=(G i I).1 (W i (O i (by omega)));omega
  cases fuel with
  |zero=>exact absurd (xF (by omega)<|g▸I) A
  |succ f=>
   refine⟨λe=>absurd e J,λj z=>?_⟩;have M:=only j z;subst M;have X:j<listed.size:=g▸I;have next:∀T w',wpListIn F 0 P ops Q l T w'->NG F P ops Q f (listed.setIfInBounds j true) T w':=by
    intro T w' Y;refine ih (j+1) f _ T w' V (by omega) (by omega) (by simp[g]) ?_ ?_ ?_ Y
    .intro m r;rw[OM X,G m r];omega
    .intro m r x O;rw[OM X] at r⊢;rcases r with r|r
     .subst r;exact .inr<|nF y g R z x O
     .exact .inr<|R m r x O
    .have:=yp X A;omega
   unfold wpListIn at q;unfold Og;simp[ho];split
   .rename_i hwt;rw[if_pos hwt] at q;exact tW next q
   .rename_i hwt;rw[if_neg hwt] at q;exact⟨q.1,next _ _ q.2⟩
def other(listed:B9 Bool)(S:A3 Ctx)(k lo:Nat)(t:Nat):Bool:=(List.range k).all λj=> !(decide (lo<=j)&&listed.getD j false)||(S.getD j []).all λq=>q.1 !=t
def T7(listed:B9 Bool)(S:A3 Ctx)(k:Nat)(Γ:Ctx):Ctx:=
 ((List.range k).flatMap λj=>if listed.getD j false=true then(S.getD j []).filter (λq=>other listed S k (j+1) q.1) else [])++Γ.filter λq=>other listed S k 0 q.1
theorem bF{lo t:Nat}:other listed S k lo t=true↔∀j c,lo<=j->j<k->D9 listed j->S[j]? =some c->∀q∈c,q.1≠t:=by grind [other,D9]
def Rx{Γ:Ctx}{q:Nat×AT}:q∈T7 listed S k Γ↔(∃j c,j<k/\D9 listed j/\S[j]? =some c/\q∈c/\∀g f,j<g->g<k->D9 listed g->S[g]? =some f->∀C∈f,C.1≠q.1)\/(q∈Γ/\∀j f,j<k->D9 listed j->S[j]? =some f->∀C∈f,C.1≠q.1):=by
 simp only[T7,Bi,JZ,OG,EG];constructor
 .rintro(⟨j,hj,h⟩|⟨m,r⟩)
  .left;split at h
   .rename_i hl;let⟨m,r⟩:=EG.1 h;rw[bF] at r;cases A:S[j]? with
    |none=>rw[HD,A] at m;cases m
    |some c=>rw[HD,A] at m;exact⟨j,c,hj,hl,A,m,λg f x y z G=>r g f x y z G⟩
   .cases h
  .right;rw[bF] at r;exact⟨m,λj f x y z=>r j f (EU _) x y z⟩
 .rintro(⟨j,c,hj,hl,A,hq,hm⟩|⟨m,r⟩)
  .left;refine⟨j,hj,?_⟩;have I:listed.getD j false=true:=hl;rw[if_pos I];exact EG.2 ⟨by rw[HD,A];exact hq,bF.2 λg f x y z G=>hm g f x y z G⟩
  .exact .inr ⟨m,bF.2 λj f _ x y z=>r j f x y z⟩
def Il(c:Ctx):A3 (Nat×A3 Nat):=c.map λp=>(p.1,p.2.Bv)
def y9{p:Nat×AT}(h:p∈c):(p.1,p.2.Bv)∈Il c:=B4.2 ⟨p,h,rfl⟩
theorem UO{p:Nat×AT}{l:A3 Nat}(h:p∈c)(f:p.1∈l):meets (Il c) l=true:=by(simp_all [meets,Il]<;>grind)
theorem wT{t:Nat}(h:meets (Il c) [t]=true):t∈c.map (·.1):=by grind [meets,Il]
def aoH{m:Nat}(h:D9 listed m):m<listed.size:=by apply CB;intro f;simp[D9,SX,eQ<|Y7 f] at h
def afm{Γ:Ctx}(IP:Hn (ops.toList.take k)=true)(hav:LS ops av=true)(Ow:R2 k kl ER EJ L av=true)(hkn:k<=ops.size)(agS:∀i,k<=i->i<ops.size->∀j,j<k->j∈av.getD i [])
 (Ko:S.reverse.map Il=kl)(hL:M9 Γ=L)
 (G:E4 P N ops Γ [] (ops.toList.take k) ER EJ S)(MP:Dm (S.flatten++Γ) ts Gw)
 (Qs:∀(fuel:Nat) (listed:B9 Bool) (a:Act) (w:AS) (H:HV),listed.size=ops.size->(∀j,j<ops.size->(D9 listed j↔j<k))->(∀m,D9 listed m->∀j∈av.getD m [],D9 listed j)->unl listed<=fuel->Sat w0 H0 N Gw a w H->NG (Eo w0.rd) P ops Q fuel listed a w):∀(fuel:Nat) (listed:B9 Bool) (a:Act) (w:AS) (H:HV),listed.size=ops.size->(∀m,D9 listed m->∀j∈av.getD m [],D9 listed j)->(∀i,k<=i->i<ops.size-> ¬D9 listed i)->unl listed<=fuel->Sat w0 H0 N (T7 listed S.reverse k Γ) a w H->NG (Eo w0.rd) P ops Q fuel listed a w:=by
 let⟨⟨S',hS',hlen⟩,hnl,T5,hat⟩:=G.at_;have hSl:S.length=k:=by rw[hS'];simp[hlen,hkn]
 have aoL:ER.length=k:=by rw[hnl];simp[hkn]
 have apg:EJ.length=k:=by rw[T5];simp[hkn]
 have key:∀j c,S.reverse[j]? =some c->kl.getD j []=Il c:=by
  intro j c h;rw[<-Ko,HD,Fp,h]
  rfl
 simp only[R2,Bq] at Ow;let⟨hc1,V5⟩:=Ow;have rJ:∀i j (ci g:Ctx),i<j->j<k->S.reverse[i]? =some ci->S.reverse[j]? =some g->((∃p∈ci,p.1∈ER.getD j [])\/(∃p∈ci,∃q∈g,p.1=q.1)\/(∃p∈g,p.1∈ER.getD i []))->i∈av.getD j []:=by
  intro i j ci g pj J Y h2 z;simp only[DC,OG,OH,F6,SS] at hc1;rcases hc1 j J i pj with h|h
  .rw[key i ci Y,key j g h2] at h;simp only[Ie] at h;exfalso;rcases z with⟨p,G,z⟩|⟨p,G,q,K,z⟩|⟨p,G,z⟩
   .have:=UO G z;rw[h.1.1] at this;cases this
   .have:=UO (l:=(Il g).map (·.1)) G (by rw[z];exact B4.2 ⟨_,y9 K,rfl⟩);rw[h.1.2] at this;cases this
   .have:=UO G z;rw[h.2] at this;cases this
  .exact h
 have lean:∀j (g:Ctx),j<k->EJ.getD j true=true->S.reverse[j]? =some g->∀p∈g.take 1,(p.1∉L)/\∀i (ci:Ctx),i<k->S.reverse[i]? =some ci->∀q∈ci,p.1∈q.2.Bv->(i≠j/\(q.1∈g.map (·.1)\/j∈av.getD i []\/∃m,m∈av.getD j []/\i<m/\meets (kl.getD m []) [q.1]=true))\/(i=j/\∀p'∈g.take 1,p'.1≠q.1):=by
  intro j g J hpj Y p G;have tk:(Il g).take 1=Il (g.take 1):=by simp[Il,pS]
  simp only[DC,OG,OH,F6,Bq] at V5;rcases V5 j J with h|⟨h2,z⟩
  .rw[hpj] at h;cases h
  .rw[key j g Y,tk] at h2;refine⟨(λU=>by have:=UO G U;rw[h2] at this;cases this),λi ci hi W q K T=>?_⟩;have r:=z i hi (q.1,q.2.Bv) (by rw[key i ci W];exact y9 K);have r:=r p.1 T;simp only[OH,F6,Bq,Jv,ne_eq,SS] at r;rcases r with(r|⟨r,(C|C)|C⟩)|⟨r,C⟩
   .have:=UO (l:=[p.1]) G (by simp);rw[key j g Y,tk] at r;rw[r] at this;cases this
   .refine .inl ⟨r,.inl ?_⟩;rw[key j g Y] at C;exact wT C
   .exact .inl ⟨r,.inr<| .inl C⟩
   .let⟨m,U,h8⟩:=Y8.1 C;simp[Bq,Um] at h8;exact .inl ⟨r,.inr<| .inr ⟨m,U,h8.1,h8.2⟩⟩
   .refine .inr ⟨by simpa using r,λp' hp' e=>?_⟩;rw[key j g Y,tk] at C;have:=UO (l:=[q.1]) hp' (by simp[e]);rw[C] at this;cases this
 have pure:∀i o,i<k->ops[i]? =some o->∃c,S.reverse[i]? =some c/\aaR P N ops Γ (ER.getD i []) (EJ.getD i true) S.reverse i o c:=by
  intro i o hi ho;have e1:ER[i]? =some (ER.getD i []):=by simp[HD,aoL,hi]
  have e2:EJ[i]? =some (EJ.getD i true):=by simp[HD,apg,hi]
  let⟨p,Y,h2⟩:=hat i o _ _ (by rw[List.getElem?_take_of_lt hi];simpa using ho) e1 e2;exact⟨p,by simpa using Y,by simpa using h2⟩
 have V:∀(fuel:Nat) (listed:B9 Bool) (a:Act) (w:AS) (H:HV),listed.size=ops.size->(∀m,D9 listed m->∀j∈av.getD m [],D9 listed j)->(∀i,k<=i->i<ops.size-> ¬D9 listed i)->unl listed<=fuel->(∀j,j<k->D9 listed j)->Sat w0 H0 N (T7 listed S.reverse k Γ) a w H->NG (Eo w0.rd) P ops Q fuel listed a w:=by
  intro fuel listed a w H A hc Ko hu M TF;refine Qs fuel listed a w H A ?_ hc hu<|TF.weaken ?_
  .intro j J;constructor
   .intro h;apply CB;intro hge;exact Ko j (by omega) J h
   .exact M j
  .intro q K;have hat:=mH (S:=S.reverse) (λj _=>rfl)<|MP.looks q K
   rw[hSl] at hat;rw[Rx];rcases hat with⟨j,c,J,Y,h1',h2⟩|⟨Y,h2⟩
   .exact .inl ⟨j,c,J,M j J,Y,h1',λI Z z W _ T=>h2 I Z z W T⟩
   .exact .inr ⟨Y,λj Z z _ T=>h2 j Z z T⟩
 intro fuel
 induction fuel with
 |zero=>intro listed a w H A hc Ko hu TF;exact V 0 listed a w H A hc Ko hu (λj J=>xF (by omega) (by omega)) TF
 |succ f ih=>
  intro listed a w H A hc Ko hu TF;by_cases M:∀j,j<k->D9 listed j
  .exact V (f+1) listed a w H A hc Ko hu M TF
  .have⟨j0,hj0,hn0⟩:∃j,j<k/\ ¬D9 listed j:=by apply CB;intro arQ;exact M λj J=>CB λh=>arQ ⟨j,J,h⟩
   refine⟨λe=>absurd e (uy hav A (by omega) hn0),λi hi=>?_⟩;let⟨o,ho,X,_⟩:=(UD A).1 hi;have yD:=(QP.1 ho).1;have O:i<listed.size:=A▸yD;have iQ:=nF hav A hc hi;by_cases R:i<k
   .let⟨c,hp1,hp2⟩:=pure i o R ho;let⟨Al,hex,Li⟩:=hp2.exec;have hin:∀q∈Al,q∈T7 listed S.reverse k Γ:=by
     intro q K;let⟨U,hx⟩:=Li q K;have up:∀I c',i<=I->I<k->D9 listed I->S.reverse[I]? =some c'->∀Z∈c',Z.1≠q.1:=by
      intro I c' z W T r Z hq' e;rcases Nat.lt_or_eq_of_le z with z|z
      .have:=rJ i I c c' z W hp1 r (.inr<| .inr ⟨Z,hq',e▸U⟩);exact X<|hc I T i this
      .subst z;exact X T
     refine Rx.2 ?_;rcases hx with⟨j,g,J,hqj,hqc,Kn⟩|⟨hx,Kn⟩
     .refine .inl ⟨j,g,by omega,iQ j<|rJ j i g c J R hqj hp1<| .inl ⟨q,hqc,U⟩,hqj,hqc,λI c' z W T r=>?_⟩;rcases G8 I i with C|C
      .exact Kn I c' z C r
      .exact up I c' C W T r
     .refine .inr ⟨hx,λI c' W T r=>?_⟩;rcases G8 I i with C|C
      .exact Kn I c' C r
      .exact up I c' C W T r
    have abo:EJ.getD i true=true->∀q∈T7 listed S.reverse k Γ,q.1∉c.map (·.1)->∀p∈c.take 1,p.1∉q.2.Bv:=by
     intro hpt q K hnk p G e;let⟨l1,l2⟩:=lean i c R hpt hp1 p G;rcases Rx.1 K with⟨j,g,J,hlj,hqj,hqc,Kn⟩|⟨K,_⟩
     .rcases(l2 j g J hqj q hqc e).resolve_right (λh=>by obtain⟨rfl,_⟩:=h;exact X hlj)|>.2 with h|h
      .exact hnk h
      .rcases h with h|⟨m,U,him,hme⟩
       .exact X<|hc j hlj i h
       .have hlm:=iQ m U;have hmk:m<k:=by apply CB;intro hge;exact Ko m (by omega) (A▸aoH hlm) hlm
        let⟨cm,hcm,_⟩:=pure m ops[m] hmk (by simp<;>omega);rw[key m cm hcm] at hme;let⟨y,hy1,hy2⟩:=B4.1<|wT hme
        exact Kn m cm (by omega) hmk hlm hcm y hy1 hy2
     .exact l1<|hL▸ua K e
    have afi:EJ.getD i true=true->∀q∈c.take 1,∀p∈c.take 1,p.1∉q.2.Bv:=by
     intro hpt q K p G e;rcases(lean i c R hpt hp1 p G).2 i c R hp1 q (OL K) e with h|h
     .exact h.1 rfl
     .exact h.2 q K rfl
    let⟨Γn,XH,agw⟩:=hex _ hin abo afi;refine akx ho (lU IP (HC (i:=i) (by rw[List.getElem?_take_of_lt R];simpa using ho)))<|XH w0 H0 a w H TF _ Q λa' w' H' KI=>?_
    refine ih _ _ w' H' (by simp[A]) ?_ ?_ ?_<|KI.weaken ?_
    .intro m U x hx;rw[OM O] at U⊢;rcases U with U|U
     .subst U;exact .inr<|iQ x hx
     .exact .inr<|hc m U x hx
    .intro m hm1 hm2;rw[OM O];rintro(h|h)
     .omega
     .exact Ko m hm1 hm2 h
    .have:=yp O X;omega
    .intro q K;refine agw q ?_;rcases Rx.1 K with⟨j,g,J,hlj,hqj,hqc,Kn⟩|⟨K,Kn⟩
     .by_cases hji:j=i
      .subst hji;rw[hp1] at hqj;cases hqj;exact Fq _ hqc
      .have abF:D9 listed j:=by
        rw[OM O] at hlj;rcases hlj with h|h
        .exact absurd h hji
        .exact h
       refine QN _ (XT.2 ⟨Rx.2 (.inl ⟨j,g,J,abF,hqj,hqc,λI Z z W T r=>Kn I Z z W (by rw[OM O];exact .inr T) r⟩),λe=>?_⟩);let⟨p,G,e⟩:=B4.1 e;rcases G8 i j with C|C
       .exact X<|hc j abF i<|rJ i j c g C J hp1 hqj<| .inr<| .inl ⟨p,G,q,hqc,e⟩
       .exact Kn i c (by omega) R (by rw[OM O];exact .inl rfl) hp1 p G e
     .refine QN _ (XT.2 ⟨Rx.2 (.inr ⟨K,λj Z W T r=>Kn j Z W (by rw[OM O];exact .inr T) r⟩),λe=>?_⟩);let⟨p,G,e⟩:=B4.1 e;exact Kn i c R (by rw[OM O];exact .inl rfl) hp1 p G e
   .exfalso;exact hn0 (iQ j0 (agS i (by omega) yD j0 hj0))
def agc{Γ:Ctx}(y:Hn (ops.toList.take k)=true)(g:LS ops av=true)(z:R2 k kl ER EJ L av=true)(x:OP ops k av=true)
 (A:S.reverse.map Il=kl)(C:M9 Γ=L)
 (G:E4 P N ops Γ [] (ops.toList.take k) ER EJ S)(I:Dm (S.flatten++Γ) ts Gw)
 (J:∀a w H,Sat w0 H0 N Gw a w H->wpListIn (Eo w0.rd) 0 P ops Q (ops.toList.drop k) a w):∀(fuel:Nat) (listed:B9 Bool) (a:Act) (w:AS) (H:HV),listed.size=ops.size->(∀m,D9 listed m->∀j∈av.getD m [],D9 listed j)->(∀i,k<=i->i<ops.size-> ¬D9 listed i)->unl listed<=fuel->Sat w0 H0 N (T7 listed S.reverse k Γ) a w H->NG (Eo w0.rd) P ops Q fuel listed a w:=by
 have f:=x;simp[OP,Bq,DC,OG,OH,Um,SS] at f;have q:k<=ops.size:=f.1;refine afm y g z q (λi hi K j T=>?_) A C G I λfuel listed a w H r M O R hs=>aft g x _ k fuel listed a w rfl (BJ _) q r M O R<|J a w H hs
 rcases f.2 i K with h|h
 .omega
 .exact h j (by omega)
def yj{Γ:Ctx}{id:Nat}(r:P.follows .mixedOrders=true)(x:Hn (ops.toList.take k)=true)(f:LS ops av=true)(y:R2 k kl ER EJ L av=true)(z:OP ops k av=true)
 (A:S.reverse.map Il=kl)(C:M9 Γ=L)
 (G:E4 P N ops Γ [] (ops.toList.take k) ER EJ S)(I:Dm (S.flatten++Γ) ts Gw)
 (J:∀a w H,Sat w0 H0 N Gw a w H->wpListIn (Eo w0.rd) 0 P ops Q (ops.toList.drop k) a w)
 {H:HV}(hs:Sat w0 H0 N Γ a w H):(Code.region id ops true).wpIn (Eo w0.rd) 0 P Q a w:=by
 refine acn r (agc x f y z A C G I J ops.size _ a _ H (by simp) ?_ ?_ ?_ ?_)
 .intro m h;exact absurd h jE
 .intro i _ hi h;exact absurd h jE
 .simp[unl]
 .have he:Ext w H {w with drawn:=w.drawn+1} H:=⟨⟨⟨rfl,rfl,rfl,BJ _,λ_ _=>rfl⟩,Fe.of<|OE _⟩,HV.le.refl _,λ_ _=>rfl,hs.sub⟩;refine(ba hs he).weaken λq g=>?_
  rcases Rx.1 g with⟨j,_,_,hl,_⟩|⟨g,_⟩
  .exact absurd hl jE
  .exact g
end
section
variable[D:DR]
def Goal(P:Bz)(w0:Ah P)(H0:HV)(N:Nat)(c:Code)(Q:Exit->Act->AS->Prop)(Γ:Ctx):Prop:=∀a w H,Sat w0 H0 N Γ a w H->c.wpIn (Eo w0.rd) 0 P Q a w
def Df{P:Bz}(w0:Ah P)(H0:HV)(N:Nat)(K:Act->AS->Prop)(Γ:Ctx):Prop:=∀a w H,Sat w0 H0 N Γ a w H->K a w
end
section
variable[D:DR]
variable{P:Program}{w0:Ah P}{H0:HV}{N:Nat}{Q:Exit->Act->World->Prop}{Γ Ar:Ctx}
variable{w:AS}{ρ:Type}{a:Act}{fn:Func}{c:Code}{r:ρ}{H:HV}{id:Nat}{ts:A3 Nat}{n:Nat}{α:Type}{rs:A3 ResultVar}{x:Code}{t:Nat}{b:Bool}{K:α->A9 ρ}{args:A3 Ty}{E:Ap}{sz:Nat}{l:A3 Ty}
def A8{y:Code}(h:Goal P w0 H0 N x (Exit.then (y.wpIn (Eo w0.rd) 0 P Q) Q) Γ):Goal P w0 H0 N (.seq x y) Q Γ:=λa w H hs=>wpIn_seq<|h a w H hs
def yG{l:A3 Oper}(f:Hn l=true)(h:HK P w0 N l.toArray l Γ Ar)(k:Df w0 H0 N (Q .normal) Ar):Goal P w0 H0 N (.region id l.toArray false) Q Γ:=λa w H hs=>wpIn_region_lit<|h.sound f H0 a w H hs Q k
def aoQ{ops:B9 Oper}{k:Nat}{S:A3 Ctx}{Gw:Ctx}(h:Hn ops.toList=true)(kl:A3 (A3<|Nat×A3 Nat))(L:A3 Nat)(av ER:A3 (A3 Nat))(EJ:A3 Bool)(m:P.follows .mixedOrders=true)(f:(LS ops av&&R2 k kl ER EJ L av&&OP ops k av)=true)
 (q:E4 P N ops Γ [] (ops.toList.take k) ER EJ S)(y:S.reverse.map Il=kl)(z:M9 Γ=L)(A:Dm (S.flatten++Γ) ts Gw)(C:HK P w0 N ops (ops.toList.drop k) Gw Ar)(kk:Df w0 H0 N (Q .normal) Ar):Goal P w0 H0 N (.region id ops true) Q Γ:=by
 simp[Bq] at f;have G:Hn (ops.toList.take k)=true:=DC.2 λo g=>DC.1 h o<|OL g
 have I:Hn (ops.toList.drop k)=true:=DC.2 λo g=>DC.1 h o<|SO g
 exact λa w H hs=>yj m G f.1.1 f.1.2 f.2 y z q A (H0:=H0) (λa w H hs=>C.sound I H0 a w H hs Q kk) hs
def AF(k:Df w0 H0 N (Q .normal) Γ):Goal P w0 H0 N .skip Q Γ:=λa w H hs=>wpIn_skip<|k a w H hs
def AE(k:Df w0 H0 N (Q .ret) Γ):Goal P w0 H0 N .ret Q Γ:=λa w H hs=>wpIn_ret<|k a w H hs
def Aj(k:Df w0 H0 N (Q<| .exit id) Γ):Goal P w0 H0 N (.exit id) Q Γ:=λa w H hs=>wpIn_exit<|k a w H hs
def AJ(h:Goal P w0 H0 N c (Exit.inBlock id Q) Γ):Goal P w0 H0 N (.block id c) Q Γ:=λa w H hs=>wpIn_block<|h a w H hs
def Sq{y:Code}(f:look Γ t=some (.val<|Az b))(g:b=true->Goal P w0 H0 N x Q Γ)(m:b=false->Goal P w0 H0 N y Q Γ):Goal P w0 H0 N (.cond (.tmp t) x y) Q Γ:=by
 intro a w H hs;have q:Ad a t= .bool b:=hs.holds _<|B8 f
 exact wpIn_cond_split (t:=b) q (λh=>g h a w H hs)<|λh=>m h a w H hs
def KQ(h:Dm Γ ts Ar)(k:Goal P w0 H0 N c Q Ar):Goal P w0 H0 N c Q Γ:=λa w H hs=>k a w H<|hs.weaken h.sub
def wp_loop_ghost{F:Fence}{A:Type}(I:A->Act->AS->Prop)(z:A->Nat)(i0:A)(C:I i0 a w)
 (round:∀i x y,I i x y->c.wpIn F n P (Exit.then (λh w'=>∃j,I j h w'/\z j<z i) Q) x y):(Code.loop c).wpIn F n P Q a w:=by
 intro b k cs G J M;have key:∀n i a w,z i=n->I i a w->∃e h w',Q e h w'/\ArrivesIn (Machine.fenced P F) P (lone (b.atR a (.code c:: .inLoop c::k)) cs w) b k cs e h w':=by
  intro n
  induction n using Nat.strongRecOn with
  |_ n ih=>
   intro i a w U V;let⟨e,m,q,g,f⟩:=round i a w V b (.inLoop c::k) cs G J M;cases e with
   |normal=>let⟨j,W,O⟩:=g;let⟨X,Y,Z,R,T⟩:=ih (z j) (U▸O) j m q rfl W;exact⟨X,Y,Z,R,.of_steps (StepsIn.trans f<| .one (fenced_calm J M rfl) stepR_inLoop) T⟩
   |exit id=>exact⟨_,m,q,g,.pass (x:= .inLoop c) rfl (λ_ _=> .inl (by simp)) f⟩|goto l=>exact⟨_,m,q,g,.pass (x:= .inLoop c) rfl (λ_ _=> .inl (by simp)) f⟩|ret=>exact⟨_,m,q,g,.pass (x:= .inLoop c) rfl (λ_ _=> .inl (by simp)) f⟩|panic ch=>exact⟨_,m,q,g,.pass (x:= .inLoop c) rfl (λ_ _=> .inl (by simp)) f⟩|outgrown=>exact⟨_,m,q,g,.pass (x:= .inLoop c) rfl (λ_ _=> .inl (by simp)) f⟩
 let⟨e,h,w',g,f⟩:=key _ i0 a w rfl C;exact⟨e,h,w',g,.of_steps (.one (fenced_calm J M rfl) stepR_loop) f⟩
theorem KY(h:GX w0 N Γ Ar)(k:Goal P w0 H0 N c Q Ar):Goal P w0 H0 N c Q Γ:=by grind [GX,Goal]
theorem Dq{K:Act->AS->Prop}(h:GX w0 N Γ Ar)(k:Df w0 H0 N K Ar):Df w0 H0 N K Γ:=by grind [GX,Df]
def bd{α ρ:Type}(e:A9 α)(K:α->A9 ρ):A9 ρ:=match e with|none=>none|some x=>K x
def gC{ρ:Type}(c:Bool)(K:A9 ρ):A9 ρ:=match c with|true=>K|false=>none
def Aw{α ρ:Type}(g:Bool)(d:α)(e:A9 α)(K:α->A9 ρ):A9 ρ:=match g with|true=>bd e K|false=>K d
def jn{α ρ:Type}(K:α->A9 ρ)(E:(α->A9 ρ)->A9 ρ):A9 ρ:=E K
def lp{σ ρ:Type}:Nat->((σ->A9 ρ)->σ->A9 ρ)->σ->A9 ρ
 |0,_,_=>none|n+1,B,s=>B (lp n B) s
theorem Ay{e:A9 α}(h:bd e K=some r):∃x,e=some x/\K x=some r:=by(simp_all [bd]<;>grind)
def Uw{c:Bool}{K:A9 ρ}(h:gC c K=some r):c=true/\K=some r:=by
 cases c
 .cases h
 .exact⟨rfl,h⟩
def GM{g:Bool}{d:α}{e:A9 α}(h:Aw g d e K=some r):∃x,(g=true->e=some x)/\K x=some r:=by
 cases g
 .exact⟨d,(λe=>nomatch e),h⟩
 .let⟨x,h1,h2⟩:=Ay h;exact⟨x,λ_=>h1,h2⟩
def aol{x y:A9 ρ}{r:A9 ρ}(h:cond b x y=r)(f:b=true):x=r:=by subst f;exact h
def aoq{x y:A9 ρ}{r:A9 ρ}(h:cond b x y=r)(f:b=false):y=r:=by subst f;exact h
def Mid{P:Bz}{α ρ:Type}(w0:Ah P)(H0:HV)(N:Nat)(f:α->Ctx)(k:α->A9 ρ)(r:ρ)(a:Act)(w:AS):Prop:=∃i,k i=some r/\∃H,Sat w0 H0 N (f i) a w H
def QY(f:α->Ctx){E:(α->A9 ρ)->A9 ρ}(g:jn K E=some r)
 (h:∀k,E k=some r->Goal P w0 H0 N x (Exit.then (Mid w0 H0 N f k r) Q) Γ)(kk:∀i,K i=some r->Df w0 H0 N (Q .normal) (f i)):Goal P w0 H0 N x Q Γ:=
 λa w H hs=>UZ (h K g a w H hs) λe m w' q=>by cases e with|normal=>let⟨i,hi,H',y⟩:=q;exact kk i hi m w' H' y|_=>exact q
def aq9{f:α->Ctx}{k:α->A9 ρ}{i:α}(g:k i=some r)(h:Dm Γ ts (f i)):Df w0 H0 N (λa w=>Mid w0 H0 N f k r a w) Γ:=λ_ _ H hs=>⟨i,g,H,hs.weaken h.sub⟩
def aaD{σ:Type}(Al:σ->Ctx){B:(σ->A9 ρ)->σ->A9 ρ}{s0:σ}(g:lp n B s0=some r)(h:Dm Γ ts (Al s0))
 (round:∀(k:σ->A9 ρ) (s:σ),B k s=some r->Goal P w0 H0 N c (Exit.then (Mid w0 H0 N Al k r) Q) (Al s)):Goal P w0 H0 N (.loop c) Q Γ:=by
 intro a w H hs;refine wp_loop_ghost (λ(i:Nat×σ) a w=>lp i.1 B i.2=some r/\∃H,Sat w0 H0 N (Al i.2) a w H) (λi=>i.1) (n,s0) ⟨g,H,hs.weaken h.sub⟩ ?_;rintro⟨m,s⟩ a w ⟨f,H,hs⟩;cases m with
 |zero=>cases f
 |succ m=>
  refine UZ (round (lp m B) s f a w H hs) λe z w' q=>?_
  cases e with|normal=>let⟨i,hi,H',y⟩:=q;exact⟨(m,i),⟨hi,H',y⟩,Nat.lt_succ_self m⟩|_=>exact q
inductive Res where
 |vs(l:A3 Ty)|fr(E:Ap)(sz:Nat)(l:A3 Ty)
def JE(H:HV):A3 Ty->AW->Prop
 |[τ],v=>τ.ok H v|l,v=>∃vs,v= .tuple vs/\Du H l vs.toList
def Res.holds(n:Nat)(w:AS)(H:HV)(v:AW):Res->Prop
 | .vs l=>JE H l v| .fr E sz l=>∃xs,w.ownsRow 0 E sz v l.length xs/\Cx H l xs/\∀b,v.ownBlock=some b->n<=b/\H b=none
def FQ(P:Bz)(f:FuncId):Bool:=
 match P.funcs[f]? with|some fn=>fn.body.isSome&& !(fn.name== "runtime.NumGoroutine")|none=>false
def Returns(w:AS)(H:HV)(f:Res)(e:Ending)(w':AS):Prop:=∃v,e= .returned v/\Ea w.heap.size w w'/\∃H',(∀r,r<w.heap.size->H' r=H r)/\(∀r o,H' r=some o->w'.heap[r]? =some o)/\f.holds w.heap.size w' H' v
structure Dy(P:Bz)(f:FuncId)(args:A3 Ty)(Ct:Res):Prop where
 can:FQ P f=true
 run:∀(w:AS) (H:HV) (vs:A3 AW),(∀r o,H r=some o->w.heap[r]? =some o)->JD P H->Du H args vs->Calls P f vs.toArray w (Returns w H Ct)
def Dy.aqH{f:FuncId}{g:Res}(h: @Dy DR.strict P f args g):Dy P f args g:=⟨Dy.can (D:=DR.strict) h,λw H vs sub gl q=>(Dy.run (D:=DR.strict) h w H vs sub gl q).mono λe w' ⟨v,y,m,r⟩=>⟨v,y,⟨Ea.toBelow (D:=DR.strict) m,Fe.of<|Ea.drawn (D:=DR.strict) m⟩,r⟩⟩
def G3:Nat->A3 Ty->Ctx
 |_,[]=>[]|i,τ::l=>(i,.val τ)::G3 (i+1) l
def aV{H:HV}{B:Ah P}{a:Act}{w:AS}:∀{l:A3 Ty} {vs:A3 AW} (i:Nat),Du H l vs->(∀j v,vs[j]? =some v->Ad a (i+j)=v)->∀p∈G3 i l,p.2.holds B a w H (Ad a p.1)
 |[],_,_,_,_,p,f=>by simp[G3] at f
 |τ::l,_,i,⟨v,rest,e,hv,hr⟩,hg,p,f=>by
  subst e;simp[G3,Ak] at f;rcases f with e|f
  .subst e;have:=hg 0 v rfl;simp[SC] at this;rw[this];exact hv
  .exact aV (i+1) hr (λj v g=>by have:=hg (j+1) v (by simpa using g);rw[<-this];congr 1;omega) p f
def mD{w:AS}{v:AW}{b:Nat}:∀{l:A3 Ty} {i:Nat},∀p∈G3 i l,¬p.2.owns w v b
 |[],_,p,f=>by simp[G3] at f
 |τ::l,i,p,f=>by
  simp[G3,Ak] at f;rcases f with e|f
  .subst e;exact λh=>h
  .exact mD p f
theorem wh{vs:A3 AW}(sub:∀r o,H r=some o->w.heap[r]? =some o)(gl:JD P H)(f:Du H args vs)(h:args.length<=n):Sat (Ah.call P w) H n (G3 0 args) {tmps:=vs.toArray++Array.replicate (n-vs.toArray.size) undef,defers:=[]} w H:=by
 have m:=Q6 f;refine⟨trivial,by simp;omega,⟨rfl,rfl,rfl,BJ _,BJ _,λ_ _ _ _=>rfl⟩,λ_ _ _ _=>rfl,sub,?_,?_,gl⟩
 .refine aV 0 f λj v g=>?_
  have y:=(EP.1 g).1;have e:(vs.toArray++Array.replicate (n-vs.toArray.size) undef)[0+j]? =some v:=by grind
  simp[Ad,SX];simp at e;rw[e];rfl
 .intro p hp q _ _ b hb;exact absurd hb<|mD p hp
inductive AY(P:Bz)(Γ:Ctx):A3 ResultVar->A3 Ty->Prop where
 |nil:AY P Γ [] []|tmp {t:Nat} {τ G5:Ty} {rs:A3 ResultVar} {l:A3 Ty} (h:look Γ t=some (.val τ)) (hi:τ=G5) (r:AY P Γ rs l):AY P Γ (.tmp t::rs) (G5::l)
 |cell {t T:Nat} {T':Ap} {τ G5:Ty} {rs:A3 ResultVar} {l:A3 Ty} (h:look Γ t=some (.own T' τ)) (hT:∀(w:AS) (b:Nat) (x:AW) (E:Ap),w.heap[b]? =some (.cells x.cells E (0,0))->Shape τ.n τ.agg x->(loadVar T ⟨b,0,none⟩).run P w= .ok x w)
   (hi:τ=G5) (r:AY P Γ rs l):AY P Γ (.cell t T::rs) (G5::l)
def X8(tmps:B9 AW):ResultVar->Sem AW
 | .tmp t=>pure<|tmps.getD t undef| .cell a t=>do loadVar t (<-asAddr (tmps.getD a undef))
theorem Uz{bl:A3 Ty}{H':HV}{B:Ah P}{v:AW}(h:(AT.buf E sz bl).holds B a w H v)(f:HV.le H H')(y:∀b,v.ownBlock=some b->B.Da b->∀o,w.heap[b]? =some o->H' b=some o):(F2 bl).ok H' v:=by
 let⟨xs,⟨z,A⟩,m,C⟩:=h;rcases A with⟨e,hl⟩|⟨g,cap,cur,e,hB,hg,hcap,hm,hcs,ht⟩
 .subst e;exact⟨none,0,by rw[hl],by omega,λq=>absurd (Hk hl) q⟩
 .subst e;refine⟨_,cap,rfl,hcap,λ_=>⟨g,0,cur,E,(0,0),rfl,y g rfl (C g rfl).2 _ hg,?_,?_⟩⟩
  .have h1:=KT m;have G:xs.length<=cur.size:=by grind
   omega
  .have h1:=KT m;rw[NB,<-h1,z,ht];exact O3 f m
def AY.run{rs:A3 ResultVar}{l:A3 Ty}(h:AY P Γ rs l){a:Act}{w:AS}{H:HV}(hs:Sat w0 H0 N Γ a w H):∃vs,(rs.mapM<|X8 a.tmps).run P w= .ok vs w/\Du H l vs:=by
 induction h with
 |nil=>exact⟨[],by simp,rfl⟩
 | @tmp t τ G5 rs l h hi _ ih=>
  subst hi;let⟨vs,f,g⟩:=ih;have q:τ.ok H (Ad a t):=hs.holds _<|B8 h
  refine⟨Ad a t::vs,?_,_,_,rfl,q,g⟩;simp only[List.mapM_cons,DS,f,X8,I2,DH]
  rfl
 | @cell t T T' τ G5 rs l h hT hi _ ih=>
  subst hi;let⟨vs,f,g⟩:=ih;let⟨b,x,e,y,m,A,C⟩:=hs.holds _<|B8 h
  refine⟨x::vs,?_,_,_,rfl,m,g⟩;have z:a.tmps.getD t undef= .pointer (some ⟨b,0,none⟩):=e;simp[List.mapM_cons,DS,X8,z,asAddr,I2,DH,hT w b x T' y<|τ.shape m,f]
def Oc(P:Bz)(fn:Func)(w0:Ah P)(H0:HV)(f:Res):Exit->Act->AS->Prop:=bodyPostM (Eo none) 0 P fn<|Returns w0.w H0 f
def Tv{w0:Ah P}{H0:HV}{N:Nat}{Γ:Ctx}{a:Act}{fn:Func}{R:Ending->AS->Prop}{F:Fence}{n:Nat}(g:w0.ds=[])(m:w0.rd=none):∀{ds:A3 Deferred} {w:AS} {H:HV},Sat w0 H0 N Γ {a with defers:=ds} w H->(∀w' H',Sat w0 H0 N Γ {a with defers:=[]} w' H'->∃v,(results fn a.tmps).run P w'= .ok v w'/\R (.returned v) w')->LeavesInM F n P fn a.tmps R ds .returning w
 |[],w,H,hs,k=>k w H hs
 |d::ds,w,H,hs,k=>by
  have C:=hs.nd;rw[g,HB] at C;let⟨⟨D,e,z,G,O,T⟩,U⟩:=C;have z:=z m;subst e;refine⟨(by simp),.inl ⟨D,_,rfl,run_takeDeferred G,?_⟩⟩;refine Tv g m (H:=H) ?_ k;have I:Dw w (w.putObj D<| .deferred none) (some D):=⟨⟨rfl,rfl,rfl,by simp,λj _ V=>YF (λe=>V (by rw[e]))⟩,BJ _⟩;have f:∀b,b≠D->(w.putObj D<| .deferred none).heap[b]? =w.heap[b]? :=λb q=>YF q
  refine UJ (a:={a with defers:={target:= .collected D,args:= #[]}::ds}) hs (hs.below.JF I λj e=>by cases e;exact .inl z) I.drawn (λ_ _ _ _=>rfl) (by simp) (HV.le.refl _) ?_ ?_ ?_ ?_
  .intro r o h;rw[f r (λe=>by subst e;rw[O] at h;cases h)];exact hs.sub r o h
  .intro _ b _ q;exact⟨f b (λe=>by subst e;have:=Ah.lo_le (b:=w0);omega),rfl⟩
  .intro p hp;refine⟨hp,λb q=>⟨f b λe=>?_,rfl⟩⟩;subst e;let⟨_,_,o,J,W⟩:=AT.H8 (hs.holds p hp) q;rw[G] at J;cases J;exact W
  .have:∀{l:A3 Deferred},(∀e∈l,e≠{target:= .collected D,args:= #[]})->Marks w0 w H l->Marks w0 (w.putObj D<| .deferred none) H l:=by
    intro l
    induction l with
    |nil=>exact λ_ _=>trivial
    |cons x l ih=>
     rintro M ⟨⟨A,e,X,Y,Z,g4⟩,gr⟩;have hD:A≠D:=λeD=>M x (by simp) (by rw[e,eD])
     exact⟨⟨A,e,X,by rw[f A hD];exact Y,Z,g4⟩,ih (λy hy=>M y (by simp[hy])) gr⟩
   rw[g,HB];exact this T U
def Wz(f:fn.results=rs.toArray)(tmps:B9 AW):results fn tmps=(do let vs<-List.toArray<$>rs.mapM (X8 tmps);pure (if h:vs.size=1 then vs[0] else .tuple vs)):=by
 unfold results;rw[f,List.mapM_toArray]
 congr 2
def alo{z:A3 Ty}(y:(w0.X,w0.Gy,w0.ds,w0.rd)=(IJ,false,[],none))(g:fn.results=rs.toArray)(h:AY P Γ rs z)(hs:Sat w0 H0 N Γ a w H):LeavesInM (Eo none) 0 P fn a.tmps (Returns w0.w H0<| .vs z) a.defers .returning w:=by
 refine Tv (congrArg (λp=>p.2.2.1) y) (congrArg (λp=>p.2.2.2) y) (a:=a) (ds:=a.defers) hs λw H hs=>?_
 have m:w0.X=IJ:=congrArg Prod.fst y;have A:w0.Gy=false:=congrArg (λp=>p.2.1) y;let⟨vs,C,f⟩:=h.run hs;have q:=Q6 f;rw[Wz g];simp only[DS,Sem.run_map,C,DH,I2];refine⟨_,rfl,_,rfl,hs.below.below m A,H,(λr g=>hs.FY A r g (by rw[m];exact λh=>h)),hs.sub,?_⟩
 match z,f,q with
 |[],f,q=>have:vs=[]:=f;subst this;exact⟨#[],rfl,rfl⟩
 |[τ],f,q=>let⟨v,rest,e,G,g⟩:=f;have:rest=[]:=g;subst this;subst e;exact G
 |τ::G5::l,f,q=>
  have: ¬vs.toArray.size=1:=by simp[q]
  rw[dif_neg this];exact⟨vs.toArray,rfl,by simpa using f⟩
def agG{q:A3 Ty}(g:(w0.X,w0.Gy,w0.ds,w0.rd)=(IJ,false,[],none))(m:fn.results=[.tmp t].toArray)(h:look Γ t=some (.buf E sz l))(hi:l=q)(hs:Sat w0 H0 N Γ a w H):LeavesInM (Eo none) 0 P fn a.tmps (Returns w0.w H0<| .fr E sz q) a.defers .returning w:=by
 subst hi;refine Tv (congrArg (λp=>p.2.2.1) g) (congrArg (λp=>p.2.2.2) g) (a:=a) (ds:=a.defers) hs λw H hs=>?_
 have f:w0.X=IJ:=congrArg Prod.fst g;have y:w0.Gy=false:=congrArg (λp=>p.2.1) g;let⟨xs,C,G,z⟩:=hs.holds _<|B8 h
 rw[Wz m];refine⟨Ad a t,?_,_,rfl,hs.below.below f y,H,(λr m=>hs.FY y r m (by rw[f];exact λh=>h)),hs.sub,xs,C,G,λb A=>⟨?_,(z b A).1⟩⟩
 .simp[X8,Ad]
 .rcases(z b A).2 with h|h
  .exact h
  .rw[f] at h;exact h.elim
def C8{f:A3 Ty}(g:(w0.X,w0.Gy,w0.ds,w0.rd)=(IJ,false,[],none))(m:fn.results=rs.toArray)(h:AY P Γ rs f):Df w0 H0 N (λa w=>Oc P fn w0 H0 (.vs f) .ret a w) Γ:=λ_ _ _ hs=>alo g m h hs
def VD{f:A3 Ty}(g:(w0.X,w0.Gy,w0.ds,w0.rd)=(IJ,false,[],none))(m:fn.results=[.tmp t].toArray)(h:look Γ t=some (.buf E sz l))(hi:l=f):Df w0 H0 N (λa w=>Oc P fn w0 H0 (.fr E sz f) .ret a w) Γ:=λ_ _ _ hs=>agG g m h hi hs
def afw{f:FuncId}{g:Res}{N:Nat}(m:P.funcs[f]? =some fn)(q:fn.body=some c)(y:fn.ntmps=N)(z:args.length<=N)(A:FQ P f=true)
 (h:∀w0 H0,Goal P (Ah.call P w0) H0 N c (Oc P fn (Ah.call P w0) H0 g)<|G3 0 args):Dy P f args g:=by
 subst y;exact⟨A,λw H _ sub gl C=>(callsIn_wide (n:=0)).1<|callsIn_of_wp_marks (F:=Fence.wide) m q trivial<|h w H _ w H<|wh sub gl C z⟩
end
section
variable[D:DR]
variable{P:Program}{N:Nat}{ops:Array Oper}{Γ Ar:Ctx}
variable{s:AT}{τ:Ty}
def Jn{o:Oper}(h:∀(w0:Ah P) (H0:HV) (N:Nat) (a:Act) (w:AS) (H:HV),Sat w0 H0 N Γ a w H->∃v w' H',(execOp a.eval o).run P w= .ok (.value v) w'/\Ext w H w' H'/\s.holds w0 a w' H' v/\∀b,s.owns w' v b->w.heap.size<=b):B0 P Γ o s:=by intro w0 H0 N a w H hs K Q k;let⟨v,w',H',f,g,m,q⟩:=h w0 H0 N a w H hs;unfold Oper.wp;rw[f,M6];exact k v w' H' g m q
def DA{o:Oper}(h:∀(w0:Ah P) (H0:HV) (N:Nat) (a:Act) (w:AS) (H:HV),Sat w0 H0 N Γ a w H->∃v,(execOp a.eval o).run P w= .ok (.value v) w/\s.holds w0 a w H v/\s.free=true):B0 P Γ o s:=
 Jn λw0 H0 N a w H hs=>by let⟨v,f,g,m⟩:=h w0 H0 N a w H hs;exact⟨v,w,H,f,Ext.refl hs.sub,g,λb e=>absurd e<|AT.free_spec m⟩
def aiA{o:Oper}(h:∀(w0:Ah P) (H0:HV) (N:Nat) (a:Act) (w:AS) (H:HV),Sat w0 H0 N Γ a w H->∃v,(execOp a.eval o).run P w= .ok (.value v) w/\s.holds w0 a w H v/\∀b,¬s.owns w v b):B0 P Γ o s:=
 Jn λw0 H0 N a w H hs=>by let⟨v,f,g,m⟩:=h w0 H0 N a w H hs;exact⟨v,w,H,f,Ext.refl hs.sub,g,λb e=>absurd e<|m b⟩
structure Arg(Γ:Ctx)(x:C9)(τ:Ty):Prop where
 ok:∀{P':Bz} {w0:Ah P'} {H0:HV} {N:Nat} {a:Act} {w:AS} {H:HV},Sat w0 H0 N Γ a w H->τ.ok H (a.eval x)
def Arg.t{t:Nat}{τ:Ty}(h:look Γ t=some (.val τ)):Arg Γ (.tmp t) τ:=⟨λhs=>hs.holds _<|B8 h⟩
def Arg.o{t:Nat}{c:Bool}(h:look Γ t=some (.opt c<| .val τ))(f:c=true):Arg Γ (.tmp t) τ:=⟨λhs=>(hs.holds _<|B8 h).1 f⟩
def Arg.int{k:IntKind}{n:Int}:Arg Γ (.const<| .int k n) (TI k n):=⟨λ_=>rfl⟩
def Arg.bool{b:Bool}:Arg Γ (.const<| .bool b) (Az b):=⟨λ_=>rfl⟩
def Arg.apP:Arg Γ (.const<| .slice none 0 0) (F2 []):=⟨λ_=>⟨none,0,rfl,BJ _,λh=>absurd rfl h⟩⟩
def Arg.imp{x:C9}{f:Ty}(h:Arg Γ x τ)(hi:∀H v,τ.ok H v->f.ok H v):Arg Γ x f:=⟨λhs=>hi _ _<|h.ok hs⟩
end
section
variable[D:DR]
variable{P:Program}{N:Nat}{ops:Array Oper}{Γ Ar:Ctx}
variable{d:Option Tmp}{ty:TypeId}{pos:String}{af:Array Edge}{g:Option (Nat×Bool)}
variable{T:Ap}{τ:Ty}{sz t:Nat}{x:C9}{off:Nat}{σ:Ty}{l:A3 Ty}{b:Bool}{k:IntKind}{i:Int}{len n:Nat}{T':Ap}{ix c:C9}{w:AS}{cs:B9 AW}{t' o:Nat}{H:HV}
def dI(h:Arg Γ x τ):B0 P Γ ⟨d,.move x,ty,pos,af,g⟩ (.val τ):=DA λ_ _ _ a _ _ hs=>⟨a.eval x,rfl,h.ok hs,rfl⟩
def B7(h:Arg Γ x τ):B0 P Γ ⟨d,.assign x,ty,pos,af,g⟩ (.val τ):=DA λ_ _ _ a _ _ hs=>⟨a.eval x,rfl,h.ok hs,rfl⟩
def L2(h:look Γ t=some (.tup l)):B0 P Γ ⟨d,.move<| .tmp t,ty,pos,af,g⟩ (.tup l):=DA λ_ _ _ a _ _ hs=>⟨Ad a t,rfl,hs.holds _<|B8 h,rfl⟩
def FO{i:Nat}(h:look Γ t=some (.tup l))(hi:l[i]? =some τ):B0 P Γ ⟨d,.extract (.tmp t) i,ty,pos,af,g⟩ (.val τ):=
 DA λ_ _ _ a w _ hs=>by
  let⟨vs,e,m⟩:=hs.holds _<|B8 h
  let⟨v,q,y⟩:=aEA m hi;have z:a.eval (.tmp t)= .tuple vs:=e;refine⟨v,?_,y,rfl⟩;have f:vs[i]? =some v:=by simpa using q
  simp[execOp,z,Instr.extract,f]
def dH{y:C9}(f:Arg Γ c (Az b))(h:b=true->Arg Γ x τ)(m:b=false->Arg Γ y τ):B0 P Γ ⟨d,.pick c x y,ty,pos,af,g⟩ (.val τ):=
 DA λ_ _ _ a w H hs=>by
  have e:a.eval c= .bool b:=f.ok hs;refine⟨if b then a.eval x else a.eval y,?_,?_,rfl⟩
  .simp[execOp,e,asBool]
  .cases b
   .simpa[AT.holds] using(m rfl).ok hs
   .simpa[AT.holds] using(h rfl).ok hs
def CN(h:b=true):gd b true=true:=h
def CT(h:b=false):gd b false=true:=by subst h;rfl
def Kk{c:Bool}(h:b=true)(k:c=true):(b&&c)=true:=by subst h;subst k;rfl
def CJ{e x:Bool}(f:Arg Γ c (Az b))(m:look Γ t=some (.opt e<| .val<|Az x))(q:b=true->e=true):B0 P Γ ⟨d,.pick c (.tmp t)<| .const<| .bool false,ty,pos,af,g⟩ (.val<|Az<|b&&x):=by
 cases b
 .exact dH f (λh=>by cases h)<|λ_=>Arg.bool
 .exact dH f (λ_=>by simpa using Arg.o m (q rfl)) (λh=>by cases h)
def CS{e x:Bool}(f:Arg Γ c (Az b))(m:look Γ t=some (.opt e<| .val<|Az x))(q:b=false->e=true):B0 P Γ ⟨d,.pick c (.const<| .bool true)<| .tmp t,ty,pos,af,g⟩ (.val<|Az (b||x)):=by
 cases b
 .exact dH f (λh=>by cases h) (λ_=>by simpa using Arg.o m (q rfl))
 .exact dH f (λ_=>Arg.bool) (λh=>by cases h)
def asG:TypeDesc->Bool
 | .struct _| .array _ _=>true|_=>false
def Bj(P:Bz)(T:Ap)(n:Nat)(agg:Bool):Bool:=
 match P.info? T,P.underlying T with|some i,some d=>Nat.beq i.size n&&(asG d==agg)&&(agg||Nat.beq n 1)|_,_=>false
def E6{d:TypeDesc}(h:P.underlying T=some d)(w:AS):(underlying T).run P w= .ok d w:=by simp[underlying,program,Sem.run,h]
theorem y8{agg:Bool}(h:Bj P T n agg=true):(∀w,(isAgg T).run P w= .ok agg w)/\(∀w,(Go.sizeOf T).run P w= .ok n w)/\(agg=false->n=1):=by
 unfold Bj at h;split at h
 .rename_i i dd hi hu;simp only[Bq,OH,N5] at h;let⟨⟨m,q⟩,f⟩:=h;have m:=DX m;refine⟨λw=>?_,λw=>?_,λy=>?_⟩
  .simp[isAgg,DS,E6 hu,DH];subst q;cases dd<;>rfl
  .simp[Go.sizeOf,typeInfo,program,Sem.run,hi];simp[m]
  .rcases f with f|f
   .grind
   .exact DX f
 .cases h
theorem PJ{agg:Bool}(h:Bj P T n agg=true){b:Nat}{E:Ap}{fr:Nat×Nat}(G:w.heap[b]? =some (.cells cs E fr))(M:off+n<=cs.size):(loadVar T ⟨b,off,none⟩).run P w= .ok (Fc agg ((cs.toList.drop off).take n).toArray) w:=by
 let⟨A,I,J⟩:=y8 h;have m:∀j v,((cs.toList.drop off).take n)[j]? =some v->w.cell? ((⟨b,off,none⟩:Addr).add j)=some v:=by
  intro j v q;have f:(⟨b,off,none⟩:Addr).add j=⟨b,off+j,none⟩:=by unfold Addr.add;split<;>simp_all
  rw[f];rw[Up] at q;split at q
  .simp at q;simp[World.cell?,G,q]
  .cases q
 have y:((cs.toList.drop off).take n).length=n:=by simp;omega
 cases agg
 .have hn:=J rfl;subst hn;have z:off<cs.size:=by omega
  have C:=m 0 cs[off] (by simp[z]);have f:(⟨b,off,none⟩:Addr).add 0=⟨b,off,none⟩:=rfl;rw[f] at C;simp[loadVar,DS,A,DH];simp[load,Sem.run,C,Fc,z]
 .have:=run_loadCells_list (P:=P) w ⟨b,off,none⟩ _ m;rw[y] at this;simp[loadVar,DS,A,I,DH,if_true,this]
  rfl
def vg{x:AW}(f:x.cells.size=n):((x.cells.toList.drop 0).take n).toArray=x.cells:=by rw[NB,Ce (by simp;omega)]
def Eg{agg:Bool}(h:Bj P T n agg=true)(w:AS)(b:Nat)(x:AW)(E:Ap)(m:w.heap[b]? =some (.cells x.cells E (0,0)))(f:Shape n agg x):(loadVar T ⟨b,0,none⟩).run P w= .ok x w:=by rw[PJ h m (by rw[f.size];omega),vg f.size,<-f.eq]
def BM(τ:Ty)(off:Nat)(σ:Ty):Prop:=∀(H:HV) (v:AW),τ.ok H v->off+σ.n<=v.cells.size/\σ.ok H (Fc σ.agg ((v.cells.toList.drop off).take σ.n).toArray)
def BM.agg{i:Nat}(h:l[i]? =some σ)(f:C7 (l.take i)=off):BM (Cl l) off σ:=by rintro H v ⟨cs,e,ok⟩;subst e;subst f;have:=L3 ok h;simpa[Value.cells] using this
def Wc:(Fc true cs).cells=cs:=rfl
def BM.trans{ρ:Ty}{f q:Nat}(h:BM τ f σ)(z:σ.agg=true)(k:BM σ q ρ):BM τ (f+q) ρ:=λH v A=>by
 let⟨G,C⟩:=h H v A;let⟨k1,y⟩:=k H _ C;rw[z] at k1 y;simp only[Wc] at k1 y;have m:(List.take σ.n<|List.drop f v.cells.toList).toArray.size=σ.n:=by simp;omega
 rw[m] at k1;refine⟨by omega,?_⟩;have:List.take ρ.n (List.drop q<|List.take σ.n<|List.drop f v.cells.toList)=List.take ρ.n (List.drop (f+q) v.cells.toList):=by
  rw[Jy,M5,Ee]
  congr 1
  omega
 simpa[this] using y
def Am(h:look Γ t=some (.own T' τ))(m:Bj P T τ.n τ.agg=true):B0 P Γ ⟨d,.load T<| .tmp t,ty,pos,af,g⟩ (.val τ):=
 DA λ_ _ _ a w _ hs=>by
  let⟨b,x,e,q,f,_,_⟩:=hs.holds _<|B8 h
  have y:a.eval (.tmp t)= .pointer (some ⟨b,0,none⟩):=e;refine⟨x,?_,f,rfl⟩;simp[execOp,y,Instr.loadAt,Instr.sureAddr,Eg m w b x T' q<|τ.shape f]
def Ej(h:look Γ t=some (.ptr t' off))(m:look Γ t'=some (.own T' τ))(q:BM τ off σ)(y:Bj P T σ.n σ.agg=true):B0 P Γ ⟨d,.load T<| .tmp t,ty,pos,af,g⟩ (.val σ):=
 DA λ_ _ _ a w _ hs=>by
  let⟨b,x,e,z,A,_,_⟩:=hs.holds _<|B8 m
  let⟨M,f,C⟩:=hs.holds _<|B8 h
  simp only at e f;rw[e] at f;cases f;have G:a.eval (.tmp t)= .pointer (some ⟨b,off,none⟩):=C;let⟨I,J⟩:=q _ _ A;refine⟨_,?_,J,rfl⟩;simp[execOp,G,Instr.loadAt,Instr.sureAddr,PJ y z I]
def BU(h:Arg Γ x (GH τ))(f:Bj P T τ.n τ.agg=true):B0 P Γ ⟨d,.load T x,ty,pos,af,g⟩ (.val τ):=
 DA λ_ _ _ a w _ hs=>by let⟨b,off,cs,E,fr,e,m,q,y⟩:=h.ok hs;refine⟨_,?_,y,rfl⟩;simp[execOp,e,Instr.loadAt,Instr.sureAddr,PJ f (hs.sub _ _ m) q]
def FI(P:Bz)(T:Ap)(k off:Nat):Bool:=
 match P.underlying T with
 |some (.struct fs)=>match fs[k]? with
  |some f=>Nat.beq f.offset off&&(match P.info? f.type with|some i=> !Nat.beq i.size 0|none=>false)
  |none=>false
 |_=>false
theorem addr_add(b off n:Nat):(⟨b,off,none⟩:Addr).add n=⟨b,off+n,none⟩:=by unfold Addr.add;split<;>simp_all
def Wn{k:Nat}(h:FI P T k off=true)(b o:Nat)(w:AS):(Instr.fieldAt T (.pointer<|some ⟨b,o,none⟩) k).run P w= .ok (.pointer<|some ⟨b,o+off,none⟩) w:=by
 unfold FI at h;split at h
 .rename_i fs hu;split at h
  .rename_i f hf;simp only[Bq] at h;let⟨q,m⟩:=h;have q:=DX q;split at m
   .rename_i i hi;have y:i.size≠0:=by intro e;rw[e] at m;simp at m
    simp[Instr.fieldAt,E6 hu,hf,Instr.sureAddr,fieldPlace,Go.sizeOf,typeInfo,program,Sem.run,hi,y,addr_add,q]
   .cases m
  .cases h
 .cases h
def Ei{k:Nat}(h:look Γ t=some (.own T' τ))(f:FI P T k off=true):B0 P Γ ⟨d,.fieldAddr T (.tmp t) k,ty,pos,af,g⟩ (.ptr t off):=
 DA λ_ _ _ a w _ hs=>by
  let⟨b,x,e,q,y,_,_⟩:=hs.holds _<|B8 h
  have m:a.eval (.tmp t)= .pointer (some ⟨b,0,none⟩):=e;exact⟨.pointer<|some ⟨b,0+off,none⟩,by simp[execOp,m,Wn f],⟨b,e,by simp⟩,rfl⟩
def Mn{k:Nat}(h:look Γ t=some (.ptr t' o))(f:FI P T k off=true):B0 P Γ ⟨d,.fieldAddr T (.tmp t) k,ty,pos,af,g⟩ (.ptr t'<|o+off):=
 DA λ_ _ _ a w _ hs=>by
  let⟨b,m,q⟩:=hs.holds _<|B8 h
  have y:a.eval (.tmp t)= .pointer (some ⟨b,o,none⟩):=q;exact⟨.pointer<|some ⟨b,o+off,none⟩,by simp[execOp,y,Wn f],⟨b,m,rfl⟩,rfl⟩
def xX(y:BM τ o σ){b:Nat}{E:Ap}{fr:Nat×Nat}(z:H b=some (.cells cs E fr))(C:off+τ.n<=cs.size)(A:τ.agg=true)(h:τ.ok H (Fc τ.agg ((cs.toList.drop off).take τ.n).toArray)):(GH σ).ok H (.pointer<|some ⟨b,off+o,none⟩):=by
 rw[A] at h;let⟨m,q⟩:=y _ _ h;simp only[Wc] at m q;have f:(List.take τ.n<|List.drop off cs.toList).toArray.size=τ.n:=by simp;omega
 rw[f] at m;refine⟨b,off+o,cs,E,fr,rfl,z,by omega,?_⟩;have:List.take σ.n (List.drop o<|List.take τ.n<|List.drop off cs.toList)=List.take σ.n (List.drop (off+o) cs.toList):=by
  rw[Jy,M5,Ee]
  congr 1
  omega
 simpa[this] using q
def JL{k:Nat}(h:Arg Γ x (GH τ))(f:τ.agg=true)(m:BM τ off σ)(q:FI P T k off=true):B0 P Γ ⟨d,.fieldAddr T x k,ty,pos,af,g⟩ (.val<|GH σ):=
 DA λ_ _ _ a w _ hs=>by let⟨b,o,cs,E,fr,e,y,z,A⟩:=h.ok hs;exact⟨.pointer<|some ⟨b,o+off,none⟩,by simp[execOp,e,Wn q],xX m y z f A,rfl⟩
def IC(P:Bz)(T:Ap)(len sz:Nat):Bool:=
 match P.underlying T with
 |some (.array n e)=>Nat.beq n len&&(match P.info? e with|some i=>Nat.beq i.size sz|none=>false)
 |_=>false
def Et(P:Bz)(T:Ap)(sz:Nat):Bool:=
 match P.underlying T with
 |some (.slice e)=>(match P.info? e with|some i=>Nat.beq i.size sz|none=>false)
 |_=>false
def o7(h:IC P T len sz=true):∃e i,P.underlying T=some (.array len e)/\P.info? e=some i/\i.size=sz:=by
 unfold IC at h;split at h
 .rename_i n e hu;simp only[Bq] at h;let⟨f,m⟩:=h;have f:=DX f;subst f;split at m
  .rename_i i hi;exact⟨e,i,hu,hi,DX m⟩
  .cases m
 .cases h
def oY(h:Et P T sz=true):∃e i,P.underlying T=some (.slice e)/\P.info? e=some i/\i.size=sz:=by
 unfold Et at h;split at h
 .rename_i e hu;split at h
  .rename_i i hi;exact⟨e,i,hu,hi,DX h⟩
  .cases h
 .cases h
def jS(h:IC P T len sz=true)(b o:Nat)(f:0<=i)(m:i<len)(w:AS):(Instr.indexAt T (.pointer<|some ⟨b,o,none⟩)<| .int k i).run P w= .ok (.pointer<|some ⟨b,o+i.toNat*sz,none⟩) w:=by let⟨e,y,q,hi,hs⟩:=o7 h;simp[Instr.indexAt,asIntOf,E6 q,Instr.sureAddr,f,m,Go.sizeOf,typeInfo,program,Sem.run,hi,hs,addr_add]
def jg(h:Et P T sz=true)(b o len cap:Nat)(f:0<=i)(m:i<len)(w:AS):(Instr.indexAt T (.slice (some ⟨b,o,none⟩) len cap)<| .int k i).run P w= .ok (.pointer<|some ⟨b,o+i.toNat*sz,none⟩) w:=by let⟨e,y,q,hi,hs⟩:=oY h;simp[Instr.indexAt,asIntOf,E6 q,f,m,Go.sizeOf,typeInfo,program,Sem.run,hi,hs,addr_add]
def uB(h:look Γ t=some (.own T' τ))(f:IC P T len sz=true)(hi:Arg Γ ix (TI k i))(m:0<=i)(q:i<len):B0 P Γ ⟨d,.indexAddr T (.tmp t) ix,ty,pos,af,g⟩ (.ptr t<|i.toNat*sz):=
 DA λ_ _ _ a w _ hs=>by
  let⟨b,x,e,A,C,_,_⟩:=hs.holds _<|B8 h
  have y:a.eval (.tmp t)= .pointer (some ⟨b,0,none⟩):=e;have z:a.eval ix= .int k i:=hi.ok hs;exact⟨.pointer<|some ⟨b,0+i.toNat*sz,none⟩,by simp[execOp,y,z,jS f b 0 m q],⟨b,e,by simp⟩,rfl⟩
def Mm(h:look Γ t=some (.ptr t' o))(f:IC P T len sz=true)(hi:Arg Γ ix (TI k i))(m:0<=i)(q:i<len):B0 P Γ ⟨d,.indexAddr T (.tmp t) ix,ty,pos,af,g⟩ (.ptr t'<|o+i.toNat*sz):=
 DA λ_ _ _ a w _ hs=>by
  let⟨b,y,z⟩:=hs.holds _<|B8 h
  have A:a.eval (.tmp t)= .pointer (some ⟨b,o,none⟩):=z;have C:a.eval ix= .int k i:=hi.ok hs;exact⟨.pointer<|some ⟨b,o+i.toNat*sz,none⟩,by simp[execOp,A,C,jS f b o m q],⟨b,y,rfl⟩,rfl⟩
def aeZ(h:Arg Γ x (GH τ))(f:τ.agg=true)(m:IC P T len sz=true)(hi:Arg Γ ix (TI k i))(q:0<=i)(y:i<len)(z:BM τ (i.toNat*sz) σ):B0 P Γ ⟨d,.indexAddr T x ix,ty,pos,af,g⟩ (.val<|GH σ):=
 DA λ_ _ _ a w _ hs=>by let⟨b,o,cs,E,fr,e,A,C,G⟩:=h.ok hs;have I:a.eval ix= .int k i:=hi.ok hs;exact⟨.pointer<|some ⟨b,o+i.toNat*sz,none⟩,by simp[execOp,e,I,jS m b o q y],xX z A C f G,rfl⟩
def Eu(sz:Nat)(l:A3 Ty):Prop:=∀τ∈l,τ.n=sz
def IQ{sz:Nat}:∀{l:A3 Ty},Eu sz l->C7 l=l.length*sz
 |[],_=>by simp
 |τ::l,h=>by have f:=h τ (by simp);have m:=IQ (l:=l) (λx q=>h x (by simp[q]));simp[f,m,IX];omega
def Eu.take{sz:Nat}{l:A3 Ty}(h:Eu sz l)(i:Nat):Eu sz (l.take i):=λτ f=>h τ<|OL f
theorem Hy{α:Type _}{f:α->Ty}(h:∀x,(f x).n=sz)(l:A3 α):Eu sz (l.map f):=by simp_all [Ty.n,Eu]
def afL(h:Arg Γ x (F2 l))(A:Et P T sz=true)(C:Eu sz l)(hi:Arg Γ ix (TI k i))(G:0<=i)(y:l[i.toNat]? =some σ):B0 P Γ ⟨d,.indexAddr T x ix,ty,pos,af,g⟩ (.val<|GH σ):=
 DA λ_ _ _ a w _ hs=>by
  let⟨X,cap,e,_,I⟩:=h.ok hs;have f:=(EP.1 y).1;let⟨b,o,cs,E,fr,J,M,O,R⟩:=I (λe=>by rw[e] at f;simp at f);subst J;have U:a.eval ix= .int k i:=hi.ok hs;have V:i<l.length:=by omega
  let⟨z,q⟩:=L3 R y;have W:C7 (l.take i.toNat)=i.toNat*sz:=by rw[IQ<|C.take _,Dd,Ds (by omega)]
  rw[W] at z q;have m:(List.take (C7 l)<|List.drop o cs.toList).length=C7 l:=by simp;omega
  rw[m] at z;refine⟨.pointer<|some ⟨b,o+i.toNat*sz,none⟩,by simp[execOp,e,U,jg A b o l.length cap G V],⟨b,_,cs,E,fr,rfl,M,by omega,?_⟩,rfl⟩;have:List.take σ.n (List.drop (i.toNat*sz)<|List.take (C7 l)<|List.drop o cs.toList)=List.take σ.n (List.drop (o+i.toNat*sz) cs.toList):=by
   rw[Jy,M5,Ee]
   congr 1
   omega
  rw[this] at q;exact q
inductive AR(Γ:Ctx):A3 C9->A3 Ty->Prop where
 |nil:AR Γ [] []|cons {x:C9} {τ:Ty} {xs:A3 C9} {l:A3 Ty} (h:Arg Γ x τ) (r:AR Γ xs l):AR Γ (x::xs) (τ::l)
def AR.ok{xs:A3 C9}{l:A3 Ty}(h:AR Γ xs l){w0:Ah P}{H0:HV}{N:Nat}{a:Act}{w:AS}{H:HV}(hs:Sat w0 H0 N Γ a w H):Du H l (xs.map a.eval):=by induction h with|nil=>rfl|cons h _ ih=>exact⟨_,_,rfl,h.ok hs,ih⟩
def Gs:A3 Ty->AT
 |[τ]=> .val τ|l=> .tup l
def rA:Res->AT
 | .vs l=>Gs l| .fr E sz l=> .buf E sz l
def U3{f:A3 Ty}{v:AW}{B:Ah P}{a:Act}(h:JE H f v):(Gs f).holds B a w H v:=by match f,h with|[],h=>exact h|[_],h=>exact h|_::_::_,h=>exact h
def UC{f:A3 Ty}:(Gs f).free=true:=by match f with|[]=>rfl|[_]=>rfl|_::_::_=>rfl
theorem Ml{f:FuncId}(h:FQ P f=true)(args:B9 AW)(w:AS):(callFunc f args).run P w= .ok (.enter f args) w:=by
 unfold FQ at h;split at h
 .rename_i fn hf;simp[Bq,F6] at h;have z:fn.body.isNone=false:=by cases m:fn.body<;>simp[m] at h⊢
  have q:fn.name≠ "runtime.NumGoroutine" :=by simpa using h.2
  have y:fn.body≠none:=by grind
  simp[callFunc,program,Sem.run,hf,q,y]
 .cases h
def ES{f:FuncId}{xs:A3 C9}{y:B9 Ap}{args:A3 Ty}{q:Res}(z:Dy P f args q)(I:AR Γ xs args):B0 P Γ ⟨d,.call ⟨.value<| .func f,xs.toArray,y⟩,ty,pos,af,g⟩ (rA q):=by
 intro w0 H0 N a w H hs K Q k;unfold Oper.wp;have e:execOp a.eval ⟨d,.call ⟨.value<| .func f,xs.toArray,y⟩,ty,pos,af,g⟩=callFunc f (#[]++xs.toArray.map a.eval++ #[]):=rfl;rw[e,Ml z.can,Uh];have J:(#[]++xs.toArray.map a.eval++ #[])=(xs.map a.eval).toArray:=by simp
 rw[J];refine(z.run w H _ hs.sub hs.gl<|I.ok hs).mono ?_;rintro e w' ⟨v,rfl,m,H',A,M,C⟩;have G:Ext w H w' H':=⟨m,λr o h=>by rw[A r<|Ft hs.sub h];exact h,A,M⟩;cases q with
 |vs l=>exact k v w' H' G (U3 C)<|λb e=>absurd e<|AT.free_spec (s:=Gs l) UC
 |fr E sz l=>let⟨xs,k1,O,k3⟩:=C;exact k v w' H' G ⟨xs,k1,O,λb m=>⟨(k3 b m).2,.inl<|CA hs.below.size (k3 b m).1⟩⟩<|λb e=>(k3 b e).1
def tQ{i:TypeInfo}{z:AW}(hi:P.info? T=some i)(f:i.zero=some z)(w:AS):(zeroValue T).run P w= .ok z w:=by simp[zeroValue,typeInfo,program,Sem.run,hi,f]
structure DF(P:Bz)(T:Ap)(τ:Ty):Prop where
 run:∀w,∃z,(zeroValue T).run P w= .ok z w/\∀H,τ.ok H z
def Ec(z:AW)(h:(P.info? T).bind (·.zero)=some z)(f:∀H,τ.ok H z):DF P T τ:=⟨λw=>by cases hi:P.info? T with|none=>rw[hi] at h;cases h|some i=>rw[hi] at h;exact⟨z,tQ hi h w,f⟩⟩
def IU(h:DF P T τ):B0 P Γ ⟨d,.alloc T,ty,pos,af,g⟩ (.own T τ):=
 Jn λw0 _ _ a w H hs=>by
  let⟨z,f,m⟩:=h.run w;refine⟨.pointer<|some ⟨w.heap.size,0,none⟩,w.alloc<| .cells z.cells T,H,?_,Ext.alloc hs.sub _,?_,?_⟩
  .simp[execOp,Instr.alloc,f,newVar,newRow]
  .refine⟨w.heap.size,z,rfl,JX w _,m H,?_,.inl hs.below.size⟩;cases q:H w.heap.size with|none=>rfl|some o=>have:=Ft hs.sub q;omega
  .rintro b ⟨ad,e,hb⟩;cases e;simp at hb;omega
def ao0(h:Arg Γ x τ):B0 P Γ ⟨d,.box T x,ty,pos,af,g⟩ (.own T τ):=
 Jn λw0 _ _ a w H hs=>by
  refine⟨.pointer<|some ⟨w.heap.size,0,none⟩,w.alloc<| .cells (a.eval x).cells T,H,?_,Ext.alloc hs.sub _,?_,?_⟩
  .simp[execOp,Instr.box,newVar,newRow]
  .refine⟨w.heap.size,a.eval x,rfl,JX w _,h.ok hs,?_,.inl hs.below.size⟩;cases f:H w.heap.size with|none=>rfl|some o=>have:=Ft hs.sub f;omega
  .rintro b ⟨ad,e,hb⟩;cases e;simp at hb;omega
end
section
variable[D:DR]
variable{P:Program}{N:Nat}{ops:Array Oper}{Γ Ar:Ctx}{d:Option Tmp}{ty:TypeId}{pos:String}{af:Array Edge}{g:Option (Nat×Bool)}
variable{T:Ap}{x:C9}{t:Nat}{T':Ap}{l:A3 Ty}{y:C9}{n:Int}{E:Ap}{sz:Nat}{m:Int}{w:AS}{τ:Ty}{H:HV}{w0:Ah P}{k:IntKind}{a:Act}{σ:Ty}{H0:HV}{dd bytes:Nat}{T2:Ap}{s:AT}{v:AW}{l2:A3 Ty}{off:Nat}{Al:Ctx}{w':AS}{ps:A3 (Nat×C9)}{l':A3 Ty}{row:A9 Nat}{b:Nat}{s':AT}{i:Nat}{ρ:Ty}{p:Nat}{G5:Ty}
def qR{d:Nat}{Γ:Ctx}{p:Nat×AT}(h:p∈del d Γ):p.1≠d/\d∉p.2.Bv:=Wt N1 p h
def xQ(hs:Sat w0 H0 N Γ a w H)(q:Dw w w' row)(z:∀b,row=some b->w0.Da b/\H b=none/\∀l,w.heap[b]? ≠some (.deferred l))
 (A:∀p∈Ar,p∈Γ/\∀b,p.2.owns w (Ad a p.1) b->row≠some b):Sat w0 H0 N Ar a w' H:=by
 have DT:∀b,b<w.heap.size->row≠some b->w'.heap[b]? =w.heap[b]? :=λb f G=>q.block b f<|λe=>G e.symm
 refine UJ (ds:=a.defers) hs (hs.below.JF q<|λk I=>(z k I).1) q.drawn (λ_ _ _ _=>rfl) q.size (HV.le.refl _) ?_ ?_ ?_ ?_
 .intro r o h;rw[DT r (Ft hs.sub h) (λe=>by have:=(z r e).2.1;rw[this] at h;cases h)];exact hs.sub r o h
 .intro _ b f Oe;exact⟨DT b f (λe=>by have:=Ah.OB (z b e).1;omega),rfl⟩
 .intro p hp;exact⟨(A p hp).1,λb f=>⟨DT b (AT.H8 (hs.holds p (A p hp).1) f).1<|(A p hp).2 b f,rfl⟩⟩
 .exact hs.nd.kept λD _ C J=>⟨by rw[DT D (lt_of_heap C)<|λe=>(z D e).2.2 _ C];exact C,J⟩
def O2(h:Sat w0 H0 N Γ a w H){d:Nat}(z:d<N)(A:Hl d Γ=true)(C:d∉s.Bv)
 (hs:s.holds w0 a w H v)(f:∀b,s.owns w v b->∀q∈Γ,¬q.2.owns w (Ad a q.1) b):Sat w0 H0 N ((d,s)::Γ) (a.put (some d) v) w H:=uW h z A C hs f
theorem Mk(hs:Sat w0 H0 N Γ a w H)(V:(t,s)∈Γ)(C:Dw w w' (some b))(W:w0.Da b)(G:s.owns w (Ad a t) b)
 (MB:s'.holds w0 a w' H (Ad a t))(X:∀c,s'.owns w' (Ad a t) c->s.owns w (Ad a t) c\/w.heap.size<=c):Sat w0 H0 N ((t,s')::BH t Γ) a w' H:=by
 let⟨h1,Y,o,Z,h4⟩:=AT.H8 (hs.holds _ V) G;have other:∀q∈BH t Γ,∀c,s.owns w (Ad a t) c-> ¬q.2.owns w (Ad a q.1) c:=λq z c A=>hs.sep _ V q (Cp q z).1 (λe=>(Cp q z).2 e.symm) c A
 have f:Sat w0 H0 N (BH t Γ) a w' H:=by
  refine xQ hs C (λc A=>by cases A;exact⟨W,Y,λl e=>by rw[Z] at e;cases e;exact h4⟩)<|λq z=>⟨(Cp q z).1,λc A e=>?_⟩
  cases e;exact other q z b G A
 have I:∀q∈BH t Γ,∀c,q.2.owns w' (Ad a q.1) c->q.2.owns w (Ad a q.1) c:=λq z c A=>by
  refine((AT.XE (w':=w') (H':=H) (hs.holds q (Cp q z).1) ?_).2 c).1 A;refine⟨C.size,C.os,C.tape,C.output,C.drawn,HV.le.refl _,?_,λ_ _ _=>rfl,f.sub⟩;intro c J M;refine C.block c J<|λe=>?_
  cases e;rcases M with M|M
  .have:=Ah.OB W;omega
  .grind
 refine⟨f.nd,f.sz,f.below,f.FY,f.sub,?_,?_,f.gl⟩
 .intro q z;rcases Ak.1 z with eq|z
  .grind
  .exact f.holds q z
 .have key:∀q∈BH t Γ,∀c,s'.owns w' (Ad a t) c-> ¬q.2.owns w' (Ad a q.1) c:=λq z c A O=>by
   rcases X c A with h|h
   .grind
   .have:=(AT.H8 (hs.holds q (Cp q z).1)<|I q z c O).1;omega
  intro q z r R U c A O;rcases Ak.1 z with eq|z<;>rcases Ak.1 R with er|R
  .grind
  .grind
  .grind
  .exact f.sep q z r R U c A O
theorem ai7(hs:Sat w0 H0 N Γ a w H)(f:Dw w w' row)(A:∀b,row=some b->w0.Da b/\H b=none)
 {q:Nat×AT}(C:q∈Γ)(G:∀b,q.2.owns w (Ad a q.1) b->row≠some b)(c:Nat):q.2.owns w' (Ad a q.1) c↔q.2.owns w (Ad a q.1) c:=by
 refine(AT.XE (w':=w') (H':=H) (hs.holds q C) ?_).2 c;refine⟨f.size,f.os,f.tape,f.output,f.drawn,HV.le.refl _,?_,λ_ _ _=>rfl,?_⟩
 .intro c hc1 z;refine f.block c hc1<|λe=>?_
  rcases z with z|z
  .have:=Ah.OB (A c e.symm).1;omega
  .grind
 .intro r o h;rw[f.block r (Ft hs.sub h) (λe=>by have:=(A r e.symm).2;rw[this] at h;cases h)];exact hs.sub r o h
theorem UI(hs:Sat w0 H0 N Γ a w H)(O:(t,s)∈Γ)(R:Dw w w' row)
 (A:∀b,row=some b->s.owns w (Ad a t) b/\w0.Da b)(V:dd<N)(W:dd∉s'.Bv)(X:s'.holds w0 a w' H v)(Y:∀b,s'.owns w' v b->s.owns w (Ad a t) b\/w.heap.size<=b):Sat w0 H0 N ((dd,s')::del dd (BH t Γ)) (a.put (some dd) v) w' H:=by
 have C:∀b,s.owns w (Ad a t) b->b<w.heap.size/\H b=none/\∃o,w.heap[b]? =some o/\YU o:=λb h=>AT.H8 (hs.holds _ O) h
 have sub:∀q∈del dd (BH t Γ),q∈Γ/\∀b,s.owns w (Ad a t) b-> ¬q.2.owns w (Ad a q.1) b:=λq f=>by
  have J:=Cp q<|K0 q f
  exact⟨J.1,λb G=>hs.sep _ O q J.1 (λe=>J.2 e.symm) b G⟩
 have I:∀b,row=some b->w0.Da b/\H b=none:=λb h=>⟨(A b h).2,(C b (A b h).1).2.1⟩
 have U:∀q∈del dd (BH t Γ),∀b,q.2.owns w (Ad a q.1) b->row≠some b:=λq f b G e=>(sub q f).2 b (A b e).1 G
 have M:Sat w0 H0 N (del dd<|BH t Γ) a w' H:=by
  refine xQ hs R (λb h=>⟨(A b h).2,(I b h).2,λl e=>?_⟩)<|λq f=>⟨(sub q f).1,U q f⟩
  let⟨_,_,o,Z,h4⟩:=C b (A b h).1;rw[Z] at e;cases e;exact h4
 refine O2 M V N1 W X λb G q f z=>?_
 have z:=(ai7 hs R I (sub q f).1 (U q f) b).1 z;rcases Y b G with h|h
 .grind
 .have:=(AT.H8 (hs.holds q (sub q f).1) z).1;omega
def lg(w:AS):Dw w w none:=⟨⟨rfl,rfl,rfl,BJ _,λ_ _ _=>rfl⟩,BJ _⟩
def F4(τ:Ty)(off:Nat)(σ G5:Ty):Prop:=∀(H:HV) (v x:AW),τ.ok H v->σ.ok H x->off+σ.n<=v.cells.size/\
 ∃f,G5.ok H f/\f.cells=(v.cells.toList.take off++x.cells.toList++v.cells.toList.drop (off+σ.n)).toArray
def F4.whole(h:σ.n=τ.n):F4 τ 0 σ σ:=λH v x f q=>by have z:=(τ.shape f).size;refine⟨by omega,x,q,?_⟩;rw[Ke (by simp;omega)];simp
def F4.agg{l:A3 Ty}{i off:Nat}{σ ρ:Ty}(h:l[i]? =some ρ)(q:σ.n=ρ.n)(A:C7 (l.take i)=off):F4 (Cl l) off σ (Cl<|l.set i σ):=by rintro H v x ⟨cs,e,ok⟩ C;subst e;subst A;let⟨f,_⟩:=L3 ok h;have z:=S5 ok h q C;rw[<-q] at f z;simp[En] at f;exact⟨f,.agg _,⟨_,rfl,by simpa[Value.cells] using z⟩,rfl⟩
def kj{n:Nat}(h:Shape n false v):v.oneCell'=true/\n=1/\v.cells= #[v]:=by
 have A:=h.size;have q:=h.cell;have f:=h.eq;cases v with
 |agg c=>
  exfalso;simp[Value.cells,Fc] at q f;by_cases z:0<c.size
  .simp[z] at f;have:=q c[0] (by simp);rw[<-f] at this;simp[Value.oneCell'] at this
  .simp[SX,eQ<|Y7 z,undef] at f
 |tuple c=>have:=q (.tuple c) (by simp[Value.cells]);simp[Value.oneCell'] at this|_=>exact⟨rfl,by simpa[Value.cells] using A.symm,rfl⟩
def af7{n:Nat}{agg:Bool}{f:A3 AW}(h:Shape n agg (Fc agg f.toArray))(q:f.length=n):(Fc agg f.toArray).cells=f.toArray:=by
 cases agg
 .let⟨_,h2,h3⟩:=kj h
  match f,q.trans h2 with|[y],_=>simpa[Fc] using h3
 .rfl
theorem F4.trans{J f:Nat}{q:Ty}(h:l[i]? =some ρ)(O:C7 (l.take i)=J)(k:F4 ρ f σ q)(R:q.n=ρ.n)(e:J+f=off):F4 (Cl l) off σ (Cl<|l.set i q):=by
 rintro H v x ⟨cs,U,ok⟩ V;subst U;subst O;subst e;let⟨W,G⟩:=L3 ok h;have z:cs.toList.length=cs.size:=by simp
 rw[z] at W
 generalize M:(List.take ρ.n<|List.drop (C7<|List.take i l) cs.toList)=Mc at G
 have A:Mc.length=ρ.n:=by grind
 have I:=af7 (ρ.shape G) A;let⟨k1,x',X,k3⟩:=k H _ x G V;rw[I] at k1 k3;simp[dq,A] at k1;refine⟨by simp[Value.cells];omega,.agg _,⟨_,rfl,?_⟩,rfl⟩;have C:=S5 ok h R X;rw[k3] at C;have Y:List.take (C7<|List.take i l) cs.toList++(List.take f Mc++x.cells.toList++List.drop (f+σ.n) Mc)++List.drop (C7 (List.take i l)+ρ.n) cs.toList=List.take (C7 (List.take i l)+f) cs.toList++x.cells.toList++List.drop (C7 (List.take i l)+f+σ.n) cs.toList:=by
  have Z:List.take (C7 (List.take i l)+f) cs.toList=List.take (C7<|List.take i l) cs.toList++List.take f Mc:=by rw[List.take_add,<-M,M5,Ds (by omega)]
  have t2:List.drop (C7 (List.take i l)+f+σ.n) cs.toList=List.drop (f+σ.n) Mc++List.drop (C7 (List.take i l)+ρ.n) cs.toList:=by
   rw[<-M,Jy,Ee];have:List.drop (C7 (List.take i l)+ρ.n) cs.toList=List.drop (ρ.n-(f+σ.n)) (List.drop (C7 (List.take i l)+(f+σ.n)) cs.toList):=by rw[Ee];congr 1;omega
   rw[this,MK]
   congr 1;omega
  rw[Z,t2];simp[Fz]
 rw[List.toList_toArray] at C;rw[Y] at C;exact C
def RB{n:Nat}{cs:B9 AW}{x:AW}(f:(P.info? T).map (·.size)=some n)(h:x.cells.size=n)(z:w.heap[b]? =some (.cells cs E (0,0)))(C:off+n<=cs.size)(A:∀c∈x.cells.toList,c.oneCell'=true):(storeVar T ⟨b,off,none⟩ x).run P w= .ok () (w.setRow b (cs.toList.take off++x.cells.toList++cs.toList.drop (off+n)).toArray):=by
 cases hi:P.info? T with
 |none=>rw[hi] at f;cases f
 |some i=>rw[hi] at f;simp at f;have q:=run_storeCells_at P b off E x.cells.toList 0 cs w z (by simp;omega) A;simp[SC,En,h] at q;simp[storeVar,Go.sizeOf,typeInfo,program,Sem.run,hi,f,h,q]
def Ry{n:Nat}{agg:Bool}(h:Bj P T n agg=true):(P.info? T).map (·.size)=some n:=by
 unfold Bj at h;split at h
 .rename_i i dd hi hu;simp only[Bq] at h;rw[hi];simp[DX h.1.1]
 .cases h
def w6(f:∀q∈Al,q∈Γ)(V:look Al p=some (.ptr t off))(G:look Al t=some (.own T' τ))(W:Arg Al x σ)(hs:F4 τ off σ G5)(X:Bj P T σ.n σ.agg=true):Step P N ops ⟨none,.store T (.tmp p) x,ty,pos,af,none⟩ Γ ((t,.own T' G5)::BH t Γ):=by
 intro w0 H0 a w H h K Q k;simp[Region.wanted,if_true];let⟨b,v,e,I,Y,Z,J⟩:=h.holds _ (f _<|B8 G);let⟨b',z,e2⟩:=h.holds _ (f _<|B8 V);simp only at e z;rw[e] at z;cases z;have ep:a.eval (.tmp p)= .pointer (some ⟨b,off,none⟩):=e2;have M:=W.ok<|h.weaken f
 have O:=σ.shape M;let⟨h1,A,h2,h3⟩:=hs H v _ Y M;have R:=RB (P:=P) (Ry X) O.size I h1 O.cell;rw[<-h3] at R;unfold Oper.wp;have er:(execOp a.eval ⟨none,.store T (.tmp p) x,ty,pos,af,none⟩).run P w= .ok .skip (w.setRow b A.cells):=by simp[execOp,ep,Instr.storeAt,Instr.sureAddr,R]
 rw[er,OF];have hg:Dw w (w.setRow b A.cells) (some b):=Dw.setRow w b _;refine k a _ H<|Mk h (f _<|B8 G) hg J ⟨_,e,rfl⟩ ⟨b,A,e,S9 w b _ _ _ _ I,h2,Z,J⟩ λc C=>?_
 let⟨ad,U,C⟩:=C;simp[e] at U;cases U;exact .inl ⟨_,e,C⟩
def bV(f:look Γ p=some (.ptr t off))(q:look Γ t=some (.own T' τ))(z:Arg Γ x σ)(hs:F4 τ off σ G5)(A:Bj P T σ.n σ.agg=true):Step P N ops ⟨none,.store T (.tmp p) x,ty,pos,af,none⟩ Γ ((t,.own T' G5)::BH t Γ):=w6 (λ_ h=>h) f q z hs A
def mO(f:look Γ p=some (.ptr t off))(h:look Γ t=some (.own T' τ))(q:Arg Γ x σ)(hs:F4 τ off σ G5)(z:Bj P T σ.n σ.agg=true):Ma P N ops Γ ⟨none,.store T (.tmp p) x,ty,pos,af,none⟩ t (.own T' G5):=λ_ A=>w6 A f h q hs z
def tP(f:∀q∈Al,q∈Γ)(C:look Al t=some (.own T' τ))(U:Arg Al x σ)(V:σ.n=τ.n)(W:Bj P T σ.n σ.agg=true):Step P N ops ⟨none,.store T (.tmp t) x,ty,pos,af,none⟩ Γ ((t,.own T' σ)::BH t Γ):=by
 intro w0 H0 a w H h K Q k;simp[Region.wanted,if_true];let⟨b,v,e,G,X,Y,I⟩:=h.holds _ (f _<|B8 C);have Z:a.eval (.tmp t)= .pointer (some ⟨b,0,none⟩):=e;have J:=U.ok<|h.weaken f
 have M:=σ.shape J;let⟨h1,z,h2,h3⟩:=F4.whole V H v _ X J;have O:=RB (P:=P) (Ry W) M.size G h1 M.cell;rw[<-h3] at O;unfold Oper.wp;have er:(execOp a.eval ⟨none,.store T (.tmp t) x,ty,pos,af,none⟩).run P w= .ok .skip (w.setRow b z.cells):=by simp[execOp,Z,Instr.storeAt,Instr.sureAddr,O]
 rw[er,OF];have hg:Dw w (w.setRow b z.cells) (some b):=Dw.setRow w b _;refine k a _ H<|Mk h (f _<|B8 C) hg I ⟨_,e,rfl⟩ ⟨b,z,e,S9 w b _ _ _ _ G,h2,Y,I⟩ λc A=>?_
 let⟨ad,R,A⟩:=A;simp[e] at R;cases R;exact .inl ⟨_,e,A⟩
def aeS(f:look Γ t=some (.own T' τ))(q:Arg Γ x σ)(z:σ.n=τ.n)(A:Bj P T σ.n σ.agg=true):Step P N ops ⟨none,.store T (.tmp t) x,ty,pos,af,none⟩ Γ ((t,.own T' σ)::BH t Γ):=tP (λ_ h=>h) f q z A
def ae6(f:look Γ t=some (.own T' τ))(h:Arg Γ x σ)(q:σ.n=τ.n)(z:Bj P T σ.n σ.agg=true):Ma P N ops Γ ⟨none,.store T (.tmp t) x,ty,pos,af,none⟩ t (.own T' σ):=λ_ A=>tP A f h q z
def GP{f:BinOp}(q:Arg Γ x σ)(A:Arg Γ y τ)
 (h:∀H u v,σ.ok H u->τ.ok H v->∀w:AS,(∀r o,H r=some o->w.heap[r]? =some o)->∃z,(do eqGuard f T x y u v;binOp f T u v:Sem AW).run P w= .ok z w/\ρ.ok H z):B0 P Γ ⟨d,.binOp f T x y T',ty,pos,af,g⟩ (.val ρ):=
 DA λ_ _ _ a w H hs=>by
  let⟨z,C,G⟩:=h H _ _ (q.ok hs) (A.ok hs) w hs.sub;refine⟨z,?_,G,rfl⟩;have e:execOp a.eval ⟨d,.binOp f T x y T',ty,pos,af,g⟩=(do let z<-(do eqGuard f T x y (a.eval x) (a.eval y);binOp f T (a.eval x) (a.eval y):Sem AW);pure (.value z)):=rfl;rw[e,DS,C]
  rfl
def Kc(f:Arg Γ x (TI k m))(h:Arg Γ y (TI k n)):B0 P Γ ⟨d,.binOp .add T x y T',ty,pos,af,g⟩ (.val<|TI k<|k.wrap<|m+n):=
 GP f h λH u v q z w _=>by cases q;cases z;exact⟨_,by simp[eqGuard,binOp,Op.intArith],rfl⟩
def NJ(f:Arg Γ x (TI k m))(h:Arg Γ y (TI k n)):B0 P Γ ⟨d,.binOp .sub T x y T',ty,pos,af,g⟩ (.val<|TI k<|k.wrap<|m-n):=
 GP f h λH u v q z w _=>by cases q;cases z;exact⟨_,by simp[eqGuard,binOp,Op.intArith],rfl⟩
def LH(f:Arg Γ x (TI k m))(h:Arg Γ y (TI k n)):B0 P Γ ⟨d,.binOp .mul T x y T',ty,pos,af,g⟩ (.val<|TI k<|k.wrap<|m*n):=
 GP f h λH u v q z w _=>by cases q;cases z;exact⟨_,by simp[eqGuard,binOp,Op.intArith],rfl⟩
def aDo(f:Arg Γ x (TI k m))(q:Arg Γ y (TI k n))(h:n≠0):B0 P Γ ⟨d,.binOp .quo T x y T',ty,pos,af,g⟩ (.val<|TI k<|k.wrap<|m.tdiv n):=
 GP f q λH u v z A w _=>by cases z;cases A;exact⟨_,by simp[eqGuard,binOp,Op.intDiv,h],rfl⟩
def ano(f:Arg Γ x (TI k m))(q:Arg Γ y (TI k n))(h:n≠0):B0 P Γ ⟨d,.binOp .rem T x y T',ty,pos,af,g⟩ (.val<|TI k<|m.tmod n):=
 GP f q λH u v z A w _=>by cases z;cases A;exact⟨_,by simp[eqGuard,binOp,Op.intDiv,h],rfl⟩
def CH(f:Arg Γ x (TI k m))(h:Arg Γ y (TI k n)):B0 P Γ ⟨d,.binOp .lss T x y T',ty,pos,af,g⟩ (.val<|Az<|decide<|m<n):=
 GP f h λH u v q z w _=>by cases q;cases z;exact⟨_,by simp[eqGuard,binOp,Op.intCmp],rfl⟩
def NK(f:Arg Γ x (TI k m))(h:Arg Γ y (TI k n)):B0 P Γ ⟨d,.binOp .leq T x y T',ty,pos,af,g⟩ (.val<|Az<|decide<|m<=n):=
 GP f h λH u v q z w _=>by cases q;cases z;exact⟨_,by simp[eqGuard,binOp,Op.intCmp],rfl⟩
def C3(f:Arg Γ x (TI k m))(h:Arg Γ y (TI k n)):B0 P Γ ⟨d,.binOp .gtr T x y T',ty,pos,af,g⟩ (.val<|Az<|decide<|n<m):=
 GP f h λH u v q z w _=>by cases q;cases z;exact⟨_,by simp[eqGuard,binOp,Op.intCmp],rfl⟩
def Fg(f:Arg Γ x (TI k m))(h:Arg Γ y (TI k n)):B0 P Γ ⟨d,.binOp .geq T x y T',ty,pos,af,g⟩ (.val<|Az<|decide<|n<=m):=
 GP f h λH u v q z w _=>by cases q;cases z;exact⟨_,by simp[eqGuard,binOp,Op.intCmp],rfl⟩
def CD(f:Arg Γ x (TI k m))(h:Arg Γ y (TI k n)):B0 P Γ ⟨d,.binOp .eql T x y T',ty,pos,af,g⟩ (.val<|Az<|decide<|m=n):=
 GP f h λH u v q z w _=>by
  cases q;cases z;refine⟨.bool<|m==n,by simp[eqGuard,binOp,Op.intCmp],?_⟩;show _=_
  congr 1
def CP(f:Arg Γ x (TI k m))(h:Arg Γ y (TI k n)):B0 P Γ ⟨d,.binOp .neq T x y T',ty,pos,af,g⟩ (.val<|Az<| !decide (m=n)):=
 GP f h λH u v q z w _=>by
  cases q;cases z;refine⟨.bool<|m !=n,by simp[eqGuard,binOp,Op.intCmp],?_⟩;show _=_
  congr 1
def anx{m n:ByteArray}(f:Arg Γ x (R4 m))(h:Arg Γ y (R4 n)):B0 P Γ ⟨d,.binOp .eql T x y T',ty,pos,af,g⟩ (.val<|Az<|m.toList==n.toList):=
 GP f h λH u v q z w _=>by cases q;cases z;exact⟨_,by simp[eqGuard,binOp,Op.stringOp],rfl⟩
def anp{m n:ByteArray}(f:Arg Γ x (R4 m))(h:Arg Γ y (R4 n)):B0 P Γ ⟨d,.binOp .neq T x y T',ty,pos,af,g⟩ (.val<|Az<| !(m.toList==n.toList)):=
 GP f h λH u v q z w _=>by cases q;cases z;exact⟨_,by simp[eqGuard,binOp,Op.stringOp],rfl⟩
def VX(P:Bz)(T:Ap):Bool:=match P.underlying T with|some .bool=>true|_=>false
def anz{m n:Bool}(f:VX P T=true)(q:Arg Γ x (Az m))(z:Arg Γ y (Az n)):B0 P Γ ⟨d,.binOp .eql T x y T',ty,pos,af,g⟩ (.val<|Az<|m==n):=
 GP q z λH u v h A w _=>by
  cases h;cases A;have h:P.underlying T=some .bool:=by
   unfold VX at f;split at f
   .assumption
   .cases f
  refine⟨.bool<|m==n,?_,rfl⟩;have e:(Op.equal T (.bool m)<| .bool n).run P w= .ok (m==n) w:=run_equalIn_bool w 9999 T m n h;simp[eqGuard,binOp,e]
def D7{b:Bool}(f:Arg Γ x (Az b)):B0 P Γ ⟨d,.unOp .not T x,ty,pos,af,g⟩ (.val<|Az<| !b):=
 DA λ_ _ _ a w H hs=>by have e:a.eval x= .bool b:=f.ok hs;exact⟨_,by simp[execOp,e,Op.unary],rfl,rfl⟩
def aDu(f:Arg Γ x (TI k n)):B0 P Γ ⟨d,.unOp .neg T x,ty,pos,af,g⟩ (.val<|TI k<|k.wrap<|0-n):=
 DA λ_ _ _ a w H hs=>by have e:a.eval x= .int k n:=f.ok hs;exact⟨_,by simp[execOp,e,Op.unary,Op.intArith],rfl,rfl⟩
def Cd(n:Int):Prop:= -9223372036854775808<=n/\n<=9223372036854775807
def wrap_i64(h:Cd n):IntKind.i64.wrap n=n:=by exact IntWalk.i64_in n h
def U64(n:Int):Prop:=0<=n/\n<18446744073709551616
def wrap_u64(h:U64 n):IntKind.u64.wrap n=n:=by unfold U64 at h;exact IntWalk.u64_in n (by omega)
def alx(f:Arg Γ x (TI .i64 m))(q:Arg Γ y (TI .i64 n))(h:Cd (m+n)):B0 P Γ ⟨d,.binOp .add T x y T',ty,pos,af,g⟩ (.val<|TI .i64<|m+n):=by have:=Kc (P:=P) (d:=d) (ty:=ty) (pos:=pos) (af:=af) (g:=g) (T:=T) (T':=T') f q;rwa [wrap_i64 h] at this
def alq(f:Arg Γ x (TI .i64 m))(q:Arg Γ y (TI .i64 n))(h:Cd (m-n)):B0 P Γ ⟨d,.binOp .sub T x y T',ty,pos,af,g⟩ (.val<|TI .i64<|m-n):=by have:=NJ (P:=P) (d:=d) (ty:=ty) (pos:=pos) (af:=af) (g:=g) (T:=T) (T':=T') f q;rwa [wrap_i64 h] at this
def alu(f:Arg Γ x (TI .i64 m))(q:Arg Γ y (TI .i64 n))(h:Cd (m*n)):B0 P Γ ⟨d,.binOp .mul T x y T',ty,pos,af,g⟩ (.val<|TI .i64<|m*n):=by have:=LH (P:=P) (d:=d) (ty:=ty) (pos:=pos) (af:=af) (g:=g) (T:=T) (T':=T') f q;rwa [wrap_i64 h] at this
def alr(f:Arg Γ x (TI .i64 m))(q:Arg Γ y (TI .i64 n))(z:n≠0)(h:Cd (m.tdiv n)):B0 P Γ ⟨d,.binOp .quo T x y T',ty,pos,af,g⟩ (.val<|TI .i64<|m.tdiv n):=by have:=aDo (P:=P) (d:=d) (ty:=ty) (pos:=pos) (af:=af) (g:=g) (T:=T) (T':=T') f q z;rwa [wrap_i64 h] at this
def als(f:Arg Γ x (TI .i64 n))(h:Cd (-n)):B0 P Γ ⟨d,.unOp .neg T x,ty,pos,af,g⟩ (.val<|TI .i64<| -n):=by have:=aDu (P:=P) (d:=d) (ty:=ty) (pos:=pos) (af:=af) (g:=g) (T:=T) f;rwa [Int.zero_sub,wrap_i64 h] at this
def DJ(P:Bz)(T:Ap):Bool:=match P.underlying T with|some (.slice _)=>true|_=>false
theorem bH(h:DJ P T=true):∃e,P.underlying T=some (.slice e):=by
 unfold DJ at h;split at h
 .grind
 .cases h
def isStr(P:Bz)(T:Ap):Bool:=match P.underlying T with|some .string=>true|_=>false
def lY(h:isStr P T=true):P.underlying T=some .string:=by
 unfold isStr at h;split at h
 .assumption
 .cases h
def lQ{ty:Ap}(h:DJ P T=true)(f:A9 Addr)(n c:Nat)(w:AS):(Builtin.len_ #[T] ty #[.slice f n c]).run P w= .ok (.int .i64 n) w:=by let⟨e,q⟩:=bH h;simp[Builtin.len_,E6 q,goInt]
def anu(f:DJ P T=true)(h:Arg Γ x (F2 l)):B0 P Γ ⟨d,.call ⟨.builtin .len,#[x],#[T]⟩,ty,pos,af,g⟩ (.val<|TI .i64 l.length):=
 DA λ_ _ _ a w H hs=>by let⟨q,cap,e,_⟩:=h.ok hs;exact⟨_,by simp[execOp,resolve,invoke,builtin,e,lQ f],rfl,rfl⟩
def agL{s:ByteArray}(f:isStr P T=true)(h:Arg Γ x (R4 s)):B0 P Γ ⟨d,.call ⟨.builtin .len,#[x],#[T]⟩,ty,pos,af,g⟩ (.val<|TI .i64 s.size):=
 DA λ_ _ _ a w H hs=>by have e:a.eval x= .string s:=h.ok hs;exact⟨_,by simp[execOp,resolve,invoke,builtin,e,Builtin.len_,E6<|lY f,goInt],rfl,rfl⟩
theorem aBQ{B:Ah P}(h:(AT.buf E sz l).holds B a w H v):∃f cap,v= .slice f l.length cap:=by
 let⟨xs,⟨_,q⟩,_⟩:=h;rcases q with⟨e,hl⟩|⟨g,cap,cur,e,_⟩
 .grind
 .grind
def afK{s:Nat}(h:DJ P T=true)(hs:look Γ s=some (.same t))(q:look Γ t=some (.buf E sz l)):B0 P Γ ⟨d,.call ⟨.builtin .len,#[.tmp s],#[T]⟩,ty,pos,af,g⟩ (.val<|TI .i64 l.length):=
 DA λ_ _ _ a w H f=>by
  let⟨z,cap,e⟩:=aBQ<|f.holds _<|B8 q
  have A:Ad a s=Ad a t:=f.holds _<|B8 hs
  have C:a.eval (.tmp s)= .slice z l.length cap:=A.trans e;exact⟨_,by simp[execOp,resolve,invoke,builtin,C,lQ h],rfl,rfl⟩
def D6:B0 P Γ ⟨d,.move<| .tmp t,ty,pos,af,g⟩ (.same t):=DA λ_ _ _ a _ _ _=>⟨Ad a t,rfl,rfl,rfl⟩
def ai9:B0 P Γ ⟨d,.assign<| .const<| .slice none 0 0,ty,pos,af,g⟩ (.buf E sz []):=aiA λw0 _ _ a w _ _=>⟨.slice none 0 0,rfl,⟨[],World.ownsRow_nil w _ _ _,rfl,λb h=>by simp[Value.ownBlock] at h⟩,λb h=>by simp[AT.owns,Value.ownBlock] at h⟩
open Classical in
theorem u6(hs:Sat w0 H0 N Γ a w H)(I:(t,s)∈Γ)(S:Nat->Prop)(J:∀b,S b->s.owns w (Ad a t) b/\w0.Da b)
 (W:s'.holds w0 a w (λr=>if S r then w.heap[r]? else H r) (Ad a t))(G:∀b,s'.owns w (Ad a t) b->s.owns w (Ad a t) b):Sat w0 H0 N ((t,s')::BH t Γ) a w (λr=>if S r then w.heap[r]? else H r):=by
 have M:∀b,S b->b<w.heap.size/\H b=none/\∃o,w.heap[b]? =some o/\YU o:=λb h=>AT.H8 (hs.holds _ I) (J b h).1
 have O:HV.le H (λr=>if S r then w.heap[r]? else H r):=by
  intro r o h;by_cases e:S r
  .grind
  .simp[e,h]
 have R:∀q∈BH t Γ,∀b,q.2.owns w (Ad a q.1) b-> ¬S b:=by intro q A b U e;exact hs.sep _ I q (Cp q A).1 (λe=>(Cp q A).2 e.symm) b (J b e).1 U
 have f:Sat w0 H0 N (BH t Γ) a w (λr=>if S r then w.heap[r]? else H r):=by
  refine UJ (ds:=a.defers) hs hs.below (BJ _) ?_ (BJ _) O ?_ ?_ ?_ ?_
  .intro _ r hr hx;have: ¬S r:=λe=>by
    rcases(J r e).2 with h|h
    .omega
    .exact hx h
   simp[this]
  .intro r o h;by_cases e:S r
   .simpa[e] using h
   .simp[e,if_false] at h;exact hs.sub r o h
  .intro _ b _ C;have: ¬S b:=λe=>by have:=Ah.OB (J b e).2;omega
   simp[this]
  .intro p z;exact⟨(Cp p z).1,λb C=>⟨rfl,by simp[R p z b C]⟩⟩
  .refine hs.nd.kept λD _ V X=>⟨V,?_⟩
   have: ¬S D:=λe=>by let⟨_,_,o,G,Y⟩:=M D e;rw[V] at G;cases G;exact Y
   simp[this,X]
 refine⟨f.nd,f.sz,f.below,f.FY,f.sub,?_,?_,f.gl⟩
 .intro p z;rcases Ak.1 z with e|z
  .subst e;exact W
  .exact f.holds p z
 .intro p z q A hne b C DI;rcases Ak.1 z with e|z
  .subst e;rcases Ak.1 A with e|A
   .grind
   .exact hs.sep _ I q (Cp q A).1 hne b (G b C) DI
  .rcases Ak.1 A with e|A
   .subst e;exact hs.sep p (Cp p z).1 _ I hne b C<|G b DI
   .exact f.sep p z q A hne b C DI
open Classical in
def aQ(hs:Sat w0 H0 N Γ a w H)(f:(t,s)∈Γ)(S:Nat->Prop)(q:∀b,S b->s.owns w (Ad a t) b/\w0.Da b)
 (z:τ.ok (λr=>if S r then w.heap[r]? else H r) (Ad a t)):Sat w0 H0 N ((t,.val τ)::BH t Γ) a w (λr=>if S r then w.heap[r]? else H r):=u6 (s':= .val τ) hs f S q z<|λ_ h=>h.elim
theorem alV(hs:Sat w0 H0 N Γ a w H)(z:look Γ t=some (.buf E sz l)):∃H',Sat w0 H0 N ((t,.val<|F2 l)::BH t Γ) a w H':=by
 have f:=hs.holds _<|B8 z
 let⟨xs,C,G,A⟩:=f;refine⟨_,aQ hs (B8 z) (λb=>(Ad a t).ownBlock=some b) (λb h=>⟨h,(A b h).2⟩) ?_⟩;refine Uz (a:=a) ⟨xs,C,G,A⟩ ?_ (λb f _ o q=>by simp[f,q]);intro r o h;by_cases e:(Ad a t).ownBlock=some r
 .grind
 .simp[e,h]
def aln(f:look Γ t=some (.buf E sz l)):GX w0 N Γ ((t,.val<|F2 l)::BH t Γ):=λ_ _ _ _ hs=>alV hs f
theorem ajC(hs:Sat w0 H0 N Γ a w H)(q:look Γ t=some (.own T τ)):∃H',Sat w0 H0 N ((t,.val<|GH τ)::BH t Γ) a w H':=by
 let⟨b,x,e,A,z,G,C⟩:=hs.holds _<|B8 q
 simp only at e;refine⟨_,aQ hs (B8 q) (λc=>c=b) (λc h=>by subst h;exact⟨⟨_,e,rfl⟩,C⟩) ?_⟩;have f:=τ.shape z;refine⟨b,0,x.cells,T,(0,0),e,by simp[A],by rw[f.size];omega,?_⟩;rw[vg f.size,<-f.eq];refine τ.mono ?_ z;intro r o h;by_cases e:r=b
 .grind
 .simp[e,h]
def S2(f:look Γ t=some (.own T τ)):GX w0 N Γ ((t,.val<|GH τ)::BH t Γ):=λ_ _ _ _ hs=>ajC hs f
def Es(P:Bz)(T:Ap)(E:Ap)(sz bytes:Nat):Bool:=
 match P.underlying T with
 |some (.slice e)=>Nat.beq e E&&(match P.info? e with
  |some i=>Nat.beq i.size sz&&Nat.beq i.bytes bytes&&(match i.zero with|some z=>Nat.beq z.cells.size sz|none=>false)&&Nat.ble 1 sz
  |none=>false)
 |_=>false
def yg(h:Es P T E sz bytes=true):∃i z,P.underlying T=some (.slice E)/\P.info? E=some i/\i.zero=some z/\i.size=sz/\i.bytes=bytes/\z.cells.size=sz/\0<sz:=by
 unfold Es at h;split at h
 .rename_i e hu;simp only[Bq] at h;let⟨q,f⟩:=h;have q:=DX q;subst q;split at f
  .rename_i i hi;simp only[Bq] at f;let⟨⟨⟨C,G⟩,A⟩,I⟩:=f;split at A
   .rename_i z hz;exact⟨i,z,hu,hi,hz,DX C,DX G,DX A,Cs I⟩
   .cases A
  .cases f
 .cases h
def jh(hT:Es P T E sz bytes=true){B:Nat}{n:Nat}{xs:A3 AW}(q:w.ownsRow B E sz v n xs)(hB:B<=w.heap.size)
 {A:A9 Addr}{m c:Nat}{f:A3 AW}(J:f.length=m*sz)(Y:∀j u,f[j]? =some u->∃x,A=some x/\w.cell? (x.add j)=some u)(h1:∀u∈f,u.oneCell'=true)(Z:A=none->m=0)
 (Ot:n+m<=maxLen)(WO:(n+m)*bytes<=140737488355328)(ty:Ap):∃R w',(Builtin.append_ #[T,T] ty #[v,.slice A m c]).run P w= .ok R w'/\w'.ownsRow B E sz R (n+m) (xs++f)/\Dw w w' v.ownBlock/\∀b,R.ownBlock=some b->v.ownBlock=some b\/w.heap.size<=b:=by
 let⟨i,z,M,hi,hz,U,V,hzs,W⟩:=yg hT;cases A with
 |none=>
  have hm:=Z rfl;subst hm;have hn:f=[]:=Hk (by simpa using J);subst hn;refine⟨v,w,?_,by simpa using q,⟨⟨rfl,rfl,rfl,BJ _,λ_ _ _=>rfl⟩,BJ _⟩,λb I=> .inl I⟩;rcases q.2 with⟨rfl,rfl⟩|⟨g,cap,cur,rfl,hbg,hg,hnc,_⟩
  .simp[Builtin.append_,E6 M,Go.sizeOf,typeInfo,program,Sem.run,hi,Builtin.lenOf,Builtin.firstCells]
  .simp[Builtin.append_,E6 M,Go.sizeOf,typeInfo,program,Sem.run,hi,Builtin.lenOf,Builtin.firstCells,hnc,storeCells]
 |some A=>
  have C:∀j u,f[j]? =some u->w.cell? (A.add j)=some u:=λj u h=>by let⟨x,e,hx⟩:=Y j u h;cases e;exact hx
  let⟨R,w',X,h2,h3,h4⟩:=run_append_own (P:=P) w B T ty E i z sz bytes M hi hz U V hzs W v n xs q A m c f J C h1 Ot WO hB;have key:w.drawn<=w'.drawn/\∀b,R.ownBlock=some b->v.ownBlock=some b\/w.heap.size<=b:=by
   subst U;subst V;rcases q.2 with⟨rfl,rfl⟩|⟨g,cap,cur,rfl,hbg,hg,hnc,hcm,hcs,htake⟩
   .by_cases hm:m=0
    .subst hm;have hf:=run_firstCells_some (P:=P) w i.size 0 A 0 c f J C;have G:(Builtin.append_ #[T,T] ty #[.slice none 0 0,.slice (some A) 0 c]).run P w= .ok (.slice none 0 0) w:=by have hn0:f=[]:=Hk (by simpa using J);subst hn0;simp[Builtin.firstCells] at hf;simp[Builtin.append_,E6 M,Go.sizeOf,typeInfo,program,Sem.run,hi,Builtin.lenOf,Builtin.firstCells,loadCells,loadCellsFrom]
     rw[X] at G;cases G;exact⟨BJ _,λb I=>by simp[Value.ownBlock] at I⟩
    .have O:(m:Int)<=9223372036854775807:=by simp[maxLen] at Ot;omega
     have G:=run_append_nil (P:=P) (w:=w) T ty E i z M hi hz A m c f J C (by omega) O (by rw[N9] at WO;omega);rw[X] at G;cases G;refine⟨OE _,λb I=>?_⟩;simp[Value.ownBlock] at I;exact .inr (by omega)
   .by_cases VJ:n+m<=cap
    .have amT:n*i.size+f.length<=cur.size:=by rw[J,hcs,<-IX];exact JA _ VJ
     have G:=run_append_room (P:=P) w T ty E i M hi g n cap cur hg A m c f J C h1 VJ amT;rw[X] at G;cases G;exact⟨BJ _,λb I=> .inl I⟩
    .have holds:∀j u,xs[j]? =some u->w.cell? ((⟨g,0,none⟩:Addr).add j)=some u:=q.cells (g:=g) rfl;have O:((n+m:Nat):Int)<=9223372036854775807:=by simp[maxLen] at Ot;omega
     have G:=run_append_grow (P:=P) w T ty E i z M hi hz ⟨g,0,none⟩ n cap xs q.1 holds A m c f J C (by omega) O (growslice_fits (by omega) WO);rw[X] at G;cases G;refine⟨OE _,λb I=>?_⟩;simp[Value.ownBlock] at I;exact .inr (by omega)
  exact⟨R,w',X,h2,⟨h3,Fe.of key.1⟩,key.2⟩
def kZ{ty:Ap}(h:DJ P T=true)(q:DJ P T2=true)(args:B9 AW)(w:AS):(Builtin.append_ #[T,T2] ty args).run P w=(Builtin.append_ #[T,T] ty args).run P w:=by
 let⟨J,f⟩:=bH h;let⟨M,z⟩:=bH q;unfold Builtin.append_;have A:(#[T,T2]:B9 Ap)[0]? =some T:=rfl;have C:(#[T,T2]:B9 Ap)[1]? =some T2:=rfl;have G:(#[T,T]:B9 Ap)[0]? =some T:=rfl;have I:(#[T,T]:B9 Ap)[1]? =some T:=rfl;simp[A,C,G,I];cases args[0]? with
 |none=>rfl
 |some a0=>cases args[1]? with
  |none=>rfl
  |some O=>
   simp[DS,E6 f,DH];cases a0<;>try rfl
   simp[DS,E6 f,E6 z,DH,I2]
def o8(h:Es P T E sz bytes=true):DJ P T=true:=by let⟨i,z,f,_⟩:=yg h;simp[DJ,f]
def nR(sub:∀r o,H r=some o->w.heap[r]? =some o)(h:(F2 l).ok H v):∃q cap f,v= .slice q l.length cap/\Cx H l f/\(∀j u,f[j]? =some u->∃x,q=some x/\w.cell? (x.add j)=some u)/\(q=none->l.length=0):=by
 let⟨q,cap,e,_,C⟩:=h;by_cases A:l=[]
 .subst A;exact⟨q,cap,[],e,rfl,λj u h=>by simp at h,λ_=>rfl⟩
 .let⟨b,off,cs,E,fr,e1,hb,hsz,ho⟩:=C A;refine⟨q,cap,_,e,ho,?_,λe=>by rw[e1] at e;cases e⟩;intro j u z;refine⟨⟨b,off,none⟩,e1,?_⟩;rw[addr_add];rw[Up] at z;split at z
  .simp at z;simp[World.cell?,sub _ _ hb,z]
  .cases z
def ux(G:∀q∈Al,q∈Γ){s:Nat}(FL:DJ P T2=true)(hs:look Al s=some (.same t))(O:look Al t=some (.buf E sz l))(W:Arg Al x (F2 l2))(R:Es P T E sz bytes=true)(X:Eu sz l2)
 (Y:l.length+l2.length<=maxLen)(Z:(l.length+l2.length)*bytes<=140737488355328)(MA:dd<N):Step P N ops ⟨some dd,.call ⟨.builtin .append,#[.tmp s,x],#[T,T2]⟩,ty,pos,af,none⟩ Γ ((dd,.buf E sz<|l++l2)::del dd (BH t Γ)):=by
 intro w0 H0 a w H z K Q k;simp[Region.wanted,if_true];have J:=z.holds _ (G _<|B8 O);let⟨xs,hr,ho,U⟩:=J;have e2:Ad a s=Ad a t:=z.holds _ (G _<|B8 hs);let⟨ad,cap,f,ex,A,I,M⟩:=nR z.sub<|W.ok<|z.weaken G
 have C:f.length=l2.length*sz:=by rw[KT A,IQ X]
 let⟨v',w',G9,h2,h3,V⟩:=jh R hr (EU _) (c:=cap) C I (Pv A) M Y Z ty;unfold Oper.wp;have er:(execOp a.eval ⟨some dd,.call ⟨.builtin .append,#[.tmp s,x],#[T,T2]⟩,ty,pos,af,none⟩).run P w= .ok (.value v') w':=by have e3:a.eval (.tmp s)=Ad a t:=e2;simp[execOp,resolve,invoke,builtin,e3,ex,kZ (o8 R) FL,G9]
 rw[er,M6];refine k _ w' H (UI z (G _<|B8 O) h3 (λc I=>⟨I,(U c I).2⟩) MA (by simp[AT.Bv]) ⟨xs++f,by simpa using h2,Pf ho A,λb J=>?_⟩ V);rcases V b J with h|h
 .exact U b h
 .refine⟨?_,.inl<|CA z.below.size h⟩;cases hh:H b with|none=>rfl|some o=>have:=Ft z.sub hh;omega
def afu(G:∀q∈Al,q∈Γ){s:Nat}{W:v.oneCell'=true}(FL:DJ P T2=true)(hs:look Al s=some (.val<|TEq v W))(O:look Al t=some (.LY v E sz l))(X:Arg Al x (F2 l2))(R:Es P T E sz bytes=true)(Y:Eu sz l2)
 (Z:l.length+l2.length<=maxLen)(WO:(l.length+l2.length)*bytes<=140737488355328)(MA:dd<N):Step P N ops ⟨some dd,.call ⟨.builtin .append,#[.tmp s,x],#[T,T2]⟩,ty,pos,af,none⟩ Γ ((dd,.buf E sz<|l++l2)::del dd (BH t Γ)):=by
 intro w0 H0 a w H z K Q k;simp[Region.wanted,if_true];have J:=z.holds _ (G _<|B8 O);let⟨xs,hr,ho,U⟩:=J;have e2:Ad a s=v:=z.holds _ (G _<|B8 hs);let⟨ad,cap,f,ex,A,I,M⟩:=nR z.sub<|X.ok<|z.weaken G
 have C:f.length=l2.length*sz:=by rw[KT A,IQ Y]
 let⟨v',w',G9,h2,h3,V⟩:=jh R hr (EU _) (c:=cap) C I (Pv A) M Z WO ty;unfold Oper.wp;have er:(execOp a.eval ⟨some dd,.call ⟨.builtin .append,#[.tmp s,x],#[T,T2]⟩,ty,pos,af,none⟩).run P w= .ok (.value v') w':=by have e3:a.eval (.tmp s)=v:=e2;simp[execOp,resolve,invoke,builtin,e3,ex,kZ (o8 R) FL,G9]
 rw[er,M6];refine k _ w' H (UI z (G _<|B8 O) h3 (λc I=>⟨I,(U c I).2⟩) MA (by simp[AT.Bv]) ⟨xs++f,by simpa using h2,Pf ho A,λb J=>?_⟩ V);rcases V b J with h|h
 .exact U b h
 .refine⟨?_,.inl<|CA z.below.size h⟩;cases hh:H b with|none=>rfl|some o=>have:=Ft z.sub hh;omega
def ahO{s:Nat}(FL:DJ P T2=true)(hs:look Γ s=some (.same t))(f:look Γ t=some (.buf E sz l))(q:Arg Γ x (F2 l2))(z:Es P T E sz bytes=true)(A:Eu sz l2)
 (C:l.length+l2.length<=maxLen)(G:(l.length+l2.length)*bytes<=140737488355328)(I:dd<N):Step P N ops ⟨some dd,.call ⟨.builtin .append,#[.tmp s,x],#[T,T2]⟩,ty,pos,af,none⟩ Γ ((dd,.buf E sz<|l++l2)::del dd (BH t Γ)):=ux (λ_ h=>h) FL hs f q z A C G I
def aiR{s:Nat}(FL:DJ P T2=true)(hs:look Γ s=some (.same t))(f:look Γ t=some (.buf E sz l))(h:Arg Γ x (F2 l2))(q:Es P T E sz bytes=true)(z:Eu sz l2)
 (A:l.length+l2.length<=maxLen)(C:(l.length+l2.length)*bytes<=140737488355328)(G:dd<N):Nh P N ops Γ ⟨some dd,.call ⟨.builtin .append,#[.tmp s,x],#[T,T2]⟩,ty,pos,af,none⟩ t dd (.buf E sz<|l++l2):=λ_ I=>ux I FL hs f h q z A C G
def uP(I:∀q∈Al,q∈Γ)(FL:DJ P T2=true)(O:look Al t=some (.buf E sz l))(W:Arg Al x (F2 l2))(R:Es P T E sz bytes=true)(X:Eu sz l2)
 (Y:l.length+l2.length<=maxLen)(Z:(l.length+l2.length)*bytes<=140737488355328)(MA:dd<N):Step P N ops ⟨some dd,.call ⟨.builtin .append,#[.tmp t,x],#[T,T2]⟩,ty,pos,af,none⟩ Γ ((dd,.buf E sz<|l++l2)::del dd (BH t Γ)):=by
 intro w0 H0 a w H A K Q k;simp[Region.wanted,if_true];have J:=A.holds _ (I _<|B8 O);let⟨xs,hr,ho,U⟩:=J;let⟨ad,cap,f,ex,z,G,M⟩:=nR A.sub<|W.ok<|A.weaken I
 have C:f.length=l2.length*sz:=by rw[KT z,IQ X]
 let⟨v',w',G9,h2,h3,V⟩:=jh R hr (EU _) (c:=cap) C G (Pv z) M Y Z ty;unfold Oper.wp;have er:(execOp a.eval ⟨some dd,.call ⟨.builtin .append,#[.tmp t,x],#[T,T2]⟩,ty,pos,af,none⟩).run P w= .ok (.value v') w':=by have e3:a.eval (.tmp t)=Ad a t:=rfl;simp[execOp,resolve,invoke,builtin,e3,ex,kZ (o8 R) FL,G9]
 rw[er,M6];refine k _ w' H (UI A (I _<|B8 O) h3 (λc G=>⟨G,(U c G).2⟩) MA (by simp[AT.Bv]) ⟨xs++f,by simpa using h2,Pf ho z,λb J=>?_⟩ V);rcases V b J with h|h
 .exact U b h
 .refine⟨?_,.inl<|CA A.below.size h⟩;cases hh:H b with|none=>rfl|some o=>have:=Ft A.sub hh;omega
def afv(FL:DJ P T2=true)(f:look Γ t=some (.buf E sz l))(q:Arg Γ x (F2 l2))(z:Es P T E sz bytes=true)(A:Eu sz l2)
 (C:l.length+l2.length<=maxLen)(G:(l.length+l2.length)*bytes<=140737488355328)(I:dd<N):Step P N ops ⟨some dd,.call ⟨.builtin .append,#[.tmp t,x],#[T,T2]⟩,ty,pos,af,none⟩ Γ ((dd,.buf E sz<|l++l2)::del dd (BH t Γ)):=uP (λ_ h=>h) FL f q z A C G I
def agX(FL:DJ P T2=true)(f:look Γ t=some (.buf E sz l))(h:Arg Γ x (F2 l2))(q:Es P T E sz bytes=true)(z:Eu sz l2)
 (A:l.length+l2.length<=maxLen)(C:(l.length+l2.length)*bytes<=140737488355328)(G:dd<N):Nh P N ops Γ ⟨some dd,.call ⟨.builtin .append,#[.tmp t,x],#[T,T2]⟩,ty,pos,af,none⟩ t dd (.buf E sz<|l++l2):=λ_ I=>uP I FL f h q z A C G
def KX(f:look Γ t=some s)(A:s.Bv=[])(C:dd<N)(o:Op)(G:o= .assign (.tmp t)\/o= .move (.tmp t)):Nh P N ops Γ ⟨some dd,o,ty,pos,af,none⟩ t dd s:=by
 intro J q w0 H0 a w H z K Q k;simp[Region.wanted,if_true];have I:(execOp a.eval ⟨some dd,o,ty,pos,af,none⟩).run P w= .ok (.value<|Ad a t) w:=by rcases G with rfl|rfl<;>rfl
 unfold Oper.wp;rw[I,M6];exact k _ w H (UI z (q _<|B8 f) (lg w) (λ_ e=>by cases e) C (by rw[A];simp) (z.holds _<|q _<|B8 f) λ_ h=> .inl h)
def CE(f:look Γ t=some s)(z:s.Bv=[])(A:dd<N)(o:Op)(C:o= .assign (.tmp t)\/o= .move (.tmp t)):Step P N ops ⟨some dd,o,ty,pos,af,none⟩ Γ ((dd,s)::del dd (BH t Γ)):=by
 intro w0 H0 a w H q K Q k;simp[Region.wanted,if_true];have G:(execOp a.eval ⟨some dd,o,ty,pos,af,none⟩).run P w= .ok (.value<|Ad a t) w:=by rcases C with rfl|rfl<;>rfl
 unfold Oper.wp;rw[G,M6];exact k _ w H (UI q (B8 f) (lg w) (λ_ e=>by cases e) A (by rw[z];simp) (q.holds _<|B8 f) λ_ h=> .inl h)
def Ac{a:Nat}(h:Nat.blt a b=true):a<b:=Cs h
def Gt(n:Nat)(agg:Bool):Ty where
 n:=n
 agg:=agg
 ok:=λ_ v=>Shape n agg v
 mono:=λ_ h=>h
 shape:=λh=>h
def aiU(f:B9 AW)(off:Nat):∀(l:A3 AW) (k:Nat),(off+k+l.length<=f.size)->(l.zipIdx k).foldl (λcs (x:AW×Nat)=>cs.setIfInBounds (off+x.2) x.1) f=(f.toList.take (off+k)++l++f.toList.drop (off+k+l.length)).toArray:=by
 intro l
 induction l generalizing f with
 |nil=>intro k _;simp
 |cons v l ih=>
  intro k q;simp[DP] at q;simp[List.zipIdx_cons,di];rw[ih _ (k+1) (by simp;omega)]
  congr 1
  simp[eh,DP];have h:off+k<f.toList.length:=by simp;omega
  have z:List.take (off+(k+1)) (f.toList.set (off+k) v)=List.take (off+k) f.toList++[v]:=by rw[<-Iw,List.take_succ_eq_append_getElem (by simpa using h)];simp[List.take_set];rw[List.set_eq_of_length_le (by simp;omega)]
  have A:List.drop (off+(k+1)+l.length) (f.toList.set (off+k) v)=List.drop (off+k+(l.length+1)) f.toList:=by
   rw[eF (by omega)]
   congr 1;omega
  rw[z,A];simp
inductive Cw(P:Bz)(Γ:Ctx):A3 (Nat×C9)->A3 Ty->A3 Ty->Prop where
 |nil {l:A3 Ty}:Cw P Γ [] l l|cons {i:Nat} {x:C9} {τ σ:Ty} {ps:A3 (Nat×C9)} {l l':A3 Ty} (hx:Arg Γ x σ) (hi:l[i]? =some τ) (hn:σ.n=τ.n) (r:Cw P Γ ps (l.set i σ) l'):Cw P Γ ((i,x)::ps) l l'
def EZ(l:A3 Ty):A3 Nat:=l.map (·.n)
def xl(h:l[i]? =some τ)(f:σ.n=τ.n):EZ (l.set i σ)=EZ l:=by
 simp[EZ,SB];apply Ul;intro j;rw[List.getElem?_set];split
 .rename_i e;subst e;split
  .simp[h,f]
  .rename_i hlt;have:=(EP.1 h).1;simp at hlt;omega
 .rfl
def Cw.fill{ps:A3 (Nat×C9)}{l l':A3 Ty}(h:Cw P Γ ps l l'){f:Nat->A9 (Nat×Nat)}(J:∀i n,(EZ l)[i]? =some n->f i=some (((EZ l).take i).sum,n))
  {w0:Ah P}{H0:HV}{N:Nat}{a:Act}{w:AS}{H:HV}(hs:Sat w0 H0 N Γ a w H):∀{cells:B9 AW},Cx H l cells.toList->∃q,Instr.fill f cells (ps.map λp=>(p.1,a.eval p.2))=some q/\Cx H l' q.toList:=by
 induction h with
 |nil=>exact λh=>⟨_,rfl,h⟩
 | @cons i x τ σ ps l l' hx hi hn r ih=>
  intro cells M;have O:=hx.ok hs;have R:=(σ.shape O).size;let⟨U,_⟩:=L3 M hi;have V:=S5 M hi hn O;have z:=J i τ.n (by simp[EZ,hi]);have G:((EZ l).take i).sum=C7 (l.take i):=by simp[EZ,C7,pS]
  rw[G] at z;have A:cells.toList.length=cells.size:=by simp
  rw[A] at U;have C:=aiU cells (C7<|l.take i) (a.eval x).cells.toList 0 (by simp;omega);simp only[SC,En] at C;have I:(a.eval x).cells.size=τ.n:=by omega
  let⟨q,W,X⟩:=ih (by rw[xl hi hn];exact J) (cells:=(cells.toList.take (C7<|l.take i)++(a.eval x).cells.toList++cells.toList.drop (C7 (l.take i)+(a.eval x).cells.size)).toArray) (by rw[I];simpa using V);refine⟨q,?_,X⟩;simp only[JT,Instr.fill,z];rw[if_neg (by simp;omega)];have e:Array.foldl (λcs (x:AW×Nat)=>cs.setIfInBounds (C7 (List.take i l)+x.snd) x.fst) cells (a.eval x).cells.zipIdx=(List.take (C7<|List.take i l) cells.toList++(a.eval x).cells.toList++List.drop (C7 (List.take i l)+(a.eval x).cells.size) cells.toList).toArray:=by rw[<-C,<-Array.foldl_toList,Array.toList_zipIdx]
  rw[<-W]
  congr 1
def L7(P:Bz)(T:Ap)(ns:A3 Nat):Bool:=
 match P.underlying T with|some (.struct fs)=>fs.toList.map (·.offset)==(List.range ns.length).map (λi=>(ns.take i).sum)&&(fs.toList.map (λf=>(P.info? f.type).map (·.size))==ns.map some)|_=>false
theorem agP{fs:A3 Field}:∀{ns:A3 Nat},fs.map (λf=>(P.info? f.type).map (·.size))=ns.map some->∀w,(fs.mapM λf=>do pure (f.offset,<-Go.sizeOf f.type):Sem (A3<|Nat×Nat)).run P w= .ok ((fs.map (·.offset)).zip ns) w:=by
 induction fs with
 |nil=>intro ns h w;cases ns<;>simp_all
 |cons f fs ih=>
  intro ns h w;cases ns with
  |nil=>simp at h
  |cons n ns=>
   simp only[JT,List.cons.injEq] at h;let⟨q,z⟩:=h;cases hi:P.info? f.type with
   |none=>rw[hi] at q;cases q
   |some i=>rw[hi] at q;simp at q;have:=ih z w;simp only[List.mapM_cons,DS,Go.sizeOf,typeInfo,program,Sem.run,hi,I2,DH,q];simp only[Go.sizeOf,typeInfo,program] at this;rw[this];simp
def Ru(O:DF P T (Cl l))(q:L7 P T (EZ l)=true)(R:Cw P Γ ps l l'):B0 P Γ ⟨d,.build T ps.toArray,ty,pos,af,g⟩ (.val<|Cl l'):=
 DA λw0 H0 N a w H hs=>by
  let⟨z,A,C⟩:=O.run w;obtain⟨U,rfl,G⟩:=C H;unfold L7 at q;split at q
  .rename_i fs hu;simp[Bq,N5] at q;let⟨V,W⟩:=q;have X:=agP W w;have Y:∀i n,(EZ l)[i]? =some n->((fs.toList.map (·.offset)).zip<|EZ l).toArray[i]? =some (((EZ l).take i).sum,n):=by intro i n hi;have I:=(EP.1 hi).1;simp[List.getElem?_toArray,V];rw[pR];refine⟨?_,hi⟩;simp[I]
   let⟨h,Z,IP⟩:=R.fill Y hs G;have J:(fs.mapM λf=>do pure (f.offset,<-Go.sizeOf f.type):Sem (B9<|Nat×Nat)).run P w= .ok ((fs.toList.map (·.offset)).zip<|EZ l).toArray w:=by
    have e:(fs.mapM λf=>do pure (f.offset,<-Go.sizeOf f.type):Sem (B9<|Nat×Nat))=List.toArray<$>(fs.toList.mapM λf=>do pure (f.offset,<-Go.sizeOf f.type)):=by rw[<-List.mapM_toArray]
    rw[e,Sem.run_map,X]
    rfl
   refine⟨.agg h,?_,⟨h,rfl,IP⟩,rfl⟩;have e2:(ps.toArray.map λ(i,x)=>(i,a.eval x)).toList=ps.map λp=>(p.1,a.eval p.2):=by simp
   have M:Instr.fill (λi=>((fs.toList.map (·.offset)).zip<|EZ l).toArray[i]?) U (ps.toArray.map λ(i,x)=>(i,a.eval x)).toList=some h:=by rw[e2];exact Z
   simp only[execOp,Instr.build,DS,A,DH,E6 hu,Value.cells];rw[J];simp only[DH];rw[M];simp
  .cases q
def Wo{n:Nat}(U:DF P T (Cl l))(V:IC P T n sz=true)(O:Eu sz l)(W:Cw P Γ ps l l'):B0 P Γ ⟨d,.build T ps.toArray,ty,pos,af,g⟩ (.val<|Cl l'):=
 DA λw0 H0 N a w H hs=>by
  let⟨z,q,A⟩:=U.run w;obtain⟨X,rfl,C⟩:=A H;let⟨e,i,G,hi,I⟩:=o7 V;have Y:∀i n,(EZ l)[i]? =some n->(λi=>some (i*sz,sz)) i=some (((EZ l).take i).sum,n):=by
   intro i n hi;have h:=(EP.1 hi).1;simp[EZ] at h;simp[EZ,Fp,Option.map_eq_some_iff] at hi;obtain⟨τ,J,rfl⟩:=hi;have Z:=O τ<|HC J
   have R:=IQ<|O.take i
   simp only[C7,Dd,Ds<|QF h] at R;simp[EZ,<-List.map_take,Z,R]
  let⟨f,hf,IP⟩:=W.fill Y hs C;refine⟨.agg f,?_,⟨f,rfl,IP⟩,rfl⟩;have e2:(ps.toArray.map λ(i,x)=>(i,a.eval x)).toList=ps.map λp=>(p.1,a.eval p.2):=by simp
  have M:Instr.fill (λi=>some (i*sz,sz)) X (ps.toArray.map λ(i,x)=>(i,a.eval x)).toList=some f:=by rw[e2];exact hf
  have Rz:(Go.sizeOf e).run P w= .ok sz w:=by simp[Go.sizeOf,typeInfo,program,Sem.run,hi,I]
  simp only[execOp,Instr.build,DS,q,DH,E6 G,Value.cells,Rz];rw[M];simp
def nK{z:AW}(f:τ.ok H z)(n:Nat):Cx H (List.replicate n τ) ((Array.range<|n*τ.n).map<|λi=>z.cells[i%z.cells.size]!).toList:=by
 have hs:=τ.shape f
 induction n with
 |zero=>simp[Cx]
 |succ n ih=>
  have e:((Array.range<|(n+1)*τ.n).map<|λi=>z.cells[i%z.cells.size]!).toList=((Array.range<|n*τ.n).map<|λi=>z.cells[i%z.cells.size]!).toList++z.cells.toList:=by
   simp[Array.toList_map,Array.toList_range];rw[QE,List.range_add,I5,LB]
   congr 1
   apply List.ext_getElem
   .simp[hs.size]
   .intro i h1 h2;simp at h2;simp[List.getElem_map,List.getElem_range,Function.comp,Array.getElem_toList];rw[hs.size,N8,Nat.add_mul_mod_self_right,QK (by rw[<-hs.size];exact h2)];rw[Hz]
  rw[e,List.replicate_succ'];exact Pf ih ⟨z,[],by simp,f,rfl⟩
def FJ(P:Bz)(T:Ap)(E:Ap)(sz:Nat):Bool:=
 match P.underlying T with
 |some (.slice e)=>Nat.beq e E&&(match P.info? e with|some i=>Nat.beq i.size sz|none=>false)
 |_=>false
def kM{n:Nat}(Y:DF P E τ)(h:FJ P T E sz=true)(q:τ.n=sz)(A:Nat.blt 0 (n*sz)=true)(Z:Nat.ble (n*sz) 16777216=true)(hp:Cw P Γ ps (List.replicate n τ) l')(hl:l'.length=n):B0 P Γ ⟨d,.buildSlice T n ps.toArray,ty,pos,af,g⟩ (.val<|F2 l'):=
 Jn λw0 H0 N a w H hs=>by
  let⟨z,M,O⟩:=Y.run w;have aph:=Ac A;unfold FJ at h;split at h
  .rename_i e hu;simp only[Bq] at h;let⟨R,C⟩:=h;have R:=DX R;subst R;split at C
   .rename_i i hi;have C:=DX C;have G:=nK (O H) n;rw[q] at G;have T5:∀i m,(EZ<|List.replicate n τ)[i]? =some m->(λi=>some (i*sz,sz)) i=some (((EZ<|List.replicate n τ).take i).sum,m):=by
     intro i m hi;simp only[EZ,eC,List.getElem?_replicate] at hi;split at hi
     .rename_i hlt;simp at hi;subst hi;simp[EZ,eC,YD,q,Ds<|QF hlt]
     .cases hi
    let⟨f,hf,U⟩:=hp.fill T5 hs G;have e2:(ps.toArray.map λ(i,x)=>(i,a.eval x)).toList=ps.map λp=>(p.1,a.eval p.2):=by simp
    have Rz:(Go.sizeOf e).run P w= .ok sz w:=by simp[Go.sizeOf,typeInfo,program,Sem.run,hi,C]
    have hle:n*sz<=16777216:=Cs Z;have V:∀I:B9 AW,((Array.range<|n*sz).map<|λi=>I[i%I.size]!)=((Array.range<|n*sz).map<|λi=>z.cells[i%z.cells.size]!)->Instr.fill (λi=>some (i*sz,sz)) ((Array.range<|n*sz).map<|λi=>I[i%I.size]!) (ps.toArray.map λ(i,x)=>(i,a.eval x)).toList=some f:=by intro I W;rw[W,e2];exact hf
    have J:Ea w.heap.size w (w.alloc<| .cells f e):=Ea.alloc _;refine⟨.slice (some ⟨w.heap.size,0,none⟩) n n,w.alloc<| .cells f e,grow H w<|w.alloc<| .cells f e,?_,Ext.grown hs.sub J,?_,λb J=>absurd J<|AT.free_spec rfl⟩
    .have h0: ¬n*sz=0:=by omega
     have X:=V z.cells rfl;simp only[execOp,Instr.buildSlice,DS,DH,E6 hu,Rz];rw[if_neg (by omega)];simp only[DS,I2,DH,if_neg h0,M];rw[X];simp[newRow]
    .refine⟨_,n,by rw[hl],by omega,λ_=>⟨w.heap.size,0,f,e,(0,0),rfl,?_,?_,?_⟩⟩
     .simp only[grow,Nat.lt_irrefl,if_false];exact JX w _
     .have:=KT U;simp at this;omega
     .have hlen:=KT U;rw[NB,Ce (by omega)];exact O3 (Ext.grown hs.sub J).le U
   .cases C
  .cases h
end
section
variable[D:DR]
variable{P:Program}{w0:Ah P}{H0:HV}{N:Nat}{Γ Ar:Ctx}{d:Option Tmp}{ty:TypeId}{pos:String}{af:Array Edge}{g:Option (Nat×Bool)}
def A7{Q:Exit->Act->AS->Prop}{y:Code}(h:Goal P w0 H0 N y Q Γ):Df w0 H0 N (λa w=>y.wpIn (Eo w0.rd) 0 P Q a w) Γ:=h
def sc(t:Nat){s:AT}{ts:A3 Nat}(h:look Γ t=some s)(r:Dm Γ ts Ar):Dm Γ (t::ts) ((t,s)::Ar):=Dm.cons h r
end
section
variable[D:DR]
variable{P:Program}{w0:Ah P}{H0:HV}{N:Nat}{ops:Array Oper}{Γ Ar:Ctx}{d:Option Tmp}{ty:TypeId}{pos:String}{af:Array Edge}{g:Option (Nat×Bool)}
variable{sz:Nat}{l:A3 Ty}{T E:Ap}{x:C9}{t j p:Nat}{σ:Ty}{H:HV}{ρ:Ty}
def mkB(P:Bz)(T E sz bytes:Nat):Bool:=
 match P.underlying T with
 |some (.slice e)=>Nat.beq e E&&(match P.info? e with|some i=>Nat.beq i.size sz&&Nat.beq i.bytes bytes&&Nat.blt 0 sz|none=>false)
 |_=>false
theorem alv{bytes:Nat}{y:C9}{n:Nat}{τ:Ty}(h:mkB P T E sz bytes=true)(Y:DF P E τ)(J:τ.n=sz)(Z:Arg Γ x (TI .i64 n))(hy:Arg Γ y (TI .i64 n))(hn:n<=9223372036854775807)(q:bytes*n<=140737488355328):B0 P Γ ⟨d,.makeSlice T x y,ty,pos,af,g⟩ (.buf E sz<|List.replicate n τ):=
 Jn λw0 H0 N a w H hs=>by
  let⟨z,M,O⟩:=Y.run w;have e1:a.eval x= .int .i64 n:=Z.ok hs;have e2:a.eval y= .int .i64 n:=hy.ok hs;unfold mkB at h;split at h
  .rename_i e hu;simp only[Bq] at h;let⟨R,f⟩:=h;have R:=DX R;subst R;split at f
   .rename_i i hi;simp only[Bq] at f;let⟨⟨f,G⟩,W⟩:=f;have f:=DX f;have G:=DX G;have W:=Ac W;have A:=nK (O H) n;rw[J] at A;have hw:IntKind.i64.wrap (n:Int)=n:=wrap_i64 (by unfold Cd;omega);have VA: ¬((bytes:Int)*n>2^48):=by grind
    have I:∀w,(Go.sizeOf e).run P w= .ok sz w:=λw=>by simp[Go.sizeOf,typeInfo,program,Sem.run,hi,f]
    have U:∀w,(typeInfo e).run P w= .ok i w:=λw=>by simp[typeInfo,program,Sem.run,hi]
    have VJ:askRoom ((n:Int).toNat*i.bytes)=pure ():=by unfold askRoom roomBytes;rw[if_neg];rw[G,CL,Jw];omega
    have DI:Ea w.heap.size w (w.alloc<| .cells ((Array.range<|n*sz).map<|λi=>z.cells[i%z.cells.size]!) e):=Ea.alloc _;have G9:(Instr.makeSlice T (.int .i64 n)<| .int .i64 n).run P w= .ok (.slice (some ⟨w.heap.size,0,none⟩) n n) (w.alloc<| .cells ((Array.range<|n*sz).map<|λi=>z.cells[i%z.cells.size]!) e):=by
     have C: ¬((n:Int)<0):=by omega
     unfold Instr.makeSlice;simp only[DS,E6 hu,DH,asInt,asIntOf,I2,U,hw,G,VJ,CL,I];have V:(decide ((n:Int)<0)||decide ((bytes:Int)*n>2^48))=false:=by simp[C];omega
     simp only[V];simp[SM,false_or,C,Int.lt_irrefl,or_self,if_false,DS,I2,DH,I];by_cases X:n*sz=0
     .have hr0:(Array.range 0:B9 Nat)= #[]:=rfl;simp[I,X,newRow,hr0]
     .simp[I,X,M,newRow]
    refine⟨_,_,H,by simp only[execOp,e1,e2,DS,G9,DH];rfl,Ext.alloc hs.sub _,⟨((Array.range<|n*sz).map<|λi=>z.cells[i%z.cells.size]!).toList,⟨by simp,.inr ⟨w.heap.size,n,_,by simp,EU _,JX w _,by simp,?_,by simp,?_⟩⟩,A,?_⟩,?_⟩
    .simp[maxLen];omega
    .rw[Ce (by simp)]
    .intro b q;simp[Value.ownBlock] at q;subst q;refine⟨?_,.inl hs.below.size⟩;cases hh:H w.heap.size with|none=>rfl|some o=>have:=Ft hs.sub hh;omega
    .intro b q;simp[AT.owns,Value.ownBlock] at q;omega
   .cases f
  .cases h
theorem UT{B:Ah P}{a:Act}{w:AS}{v:AW}(h:(AT.buf E sz l).holds B a w H v)(q:l≠[]):∃b cap cs xs,v= .slice (some ⟨b,0,none⟩) l.length cap/\w.heap[b]? =some (.cells cs E (0,0))/\l.length<=cap/\cap<=maxLen/\cs.size=cap*sz/\xs.length=l.length*sz/\cs.toList.take (l.length*sz)=xs/\Cx H l xs/\H b=none/\B.Da b:=by
 let⟨xs,⟨z,A⟩,C,f⟩:=h;rcases A with⟨e,hl⟩|⟨g,cap,cur,e,hB,hg,hcap,hm,hcs,ht⟩
 .grind
 .subst e;exact⟨g,cap,cur,xs,rfl,hg,hcap,hm,hcs,z,ht,C,(f g rfl).1,(f g rfl).2⟩
def aea{s:Nat}{ix:C9}{k:IntKind}{i:Int}(hs:look Γ s=some (.same t))(q:look Γ t=some (.buf E sz l))(z:Et P T sz=true)(hi:Arg Γ ix (TI k i))(A:0<=i)(f:i<l.length):B0 P Γ ⟨d,.indexAddr T (.tmp s) ix,ty,pos,af,g⟩ (.IB t i.toNat sz):=
 DA λw0 _ _ a w H h=>by
  let⟨b,cap,cs,xs,e,J,_⟩:=UT (h.holds _<|B8 q) (λe=>by rw[e] at f;simp at f;omega);have C:Ad a s=Ad a t:=h.holds _<|B8 hs
  have G:a.eval (.tmp s)= .slice (some ⟨b,0,none⟩) l.length cap:=C.trans e;have I:a.eval ix= .int k i:=hi.ok h;exact⟨.pointer<|some ⟨b,0+i.toNat*sz,none⟩,by simp[execOp,G,I,jg z b 0 l.length cap A f],⟨b,_,cap,e,by simp⟩,rfl⟩
theorem aeY(J:look Γ p=some (.IB t j sz))(M:look Γ t=some (.buf E sz l))(O:Eu sz l)(q:l[j]? =some σ)(R:Bj P T σ.n σ.agg=true):B0 P Γ ⟨d,.load T<| .tmp p,ty,pos,af,g⟩ (.val σ):=
 DA λw0 _ _ a w H z=>by
  have A:=(EP.1 q).1;let⟨b,cap,cs,xs,e,U,C,_,V,hx,f,W,_,_⟩:=UT (z.holds _<|B8 M) (λe=>by rw[e] at A;simp at A);let⟨b',X,qh,h,Y⟩:=z.holds _<|B8 J
  simp only at e h;rw[e] at h;cases h;have Z:a.eval (.tmp p)= .pointer (some ⟨b,j*sz,none⟩):=Y;let⟨p1,G⟩:=L3 W q;have hc:C7 (l.take j)=j*sz:=by rw[IQ<|O.take _,Dd,Ds (by omega)]
  rw[hc] at p1 G;have aaC:l.length*sz<=cs.size:=by grind
  have Su:List.take σ.n (List.drop (j*sz) cs.toList)=List.take σ.n (List.drop (j*sz) xs):=by
   rw[<-f,Jy,M5]
   congr 1;omega
  refine⟨_,?_,G,rfl⟩;have I:=PJ (P:=P) R U (off:=j*sz) (by omega);rw[Su] at I;simp[execOp,Z,Instr.loadAt,Instr.sureAddr,I]
def xG{α:Type _}{cs y:A3 α}{o s n:Nat}(f:y.length=s)(q:o+s<=n)(z:n<=cs.length):List.take n (cs.take o++y++cs.drop (o+s))=List.take o (cs.take n)++y++List.drop (o+s) (cs.take n):=by
 have h:(cs.take o++y).length=o+s:=by simp[f];omega
 rw[Uj,h,Ce (by omega),M5,Ds (by omega),Jy]
theorem sr{Al:Ctx}(G:∀q∈Al,q∈Γ)(hp:look Al p=some (.IB t j sz))(W:look Al t=some (.buf E sz l))(X:Eu sz l)(I:l[j]? =some ρ)(hx:Arg Al x σ)(J:σ.n=sz)(hT:Bj P T σ.n σ.agg=true):Step P N ops ⟨none,.store T (.tmp p) x,ty,pos,af,none⟩ Γ ((t,.buf E sz<|l.set j σ)::BH t Γ):=by
 intro w0 H0 a w H M K Q k;simp[Region.wanted,if_true];have Y:=(EP.1 I).1;let⟨b,cap,cs,xs,e,Z,A,O,hcs,IE,f,ho,hH,hB⟩:=UT (M.holds _ (G _<|B8 W)) (λe=>by rw[e] at Y;simp at Y);let⟨b',aav,qh,R,e2⟩:=M.holds _ (G _<|B8 hp);simp only at e R;rw[e] at R;cases R;have ep:a.eval (.tmp p)= .pointer (some ⟨b,j*sz,none⟩):=e2;have Yf:=hx.ok<|M.weaken G
 have U:=σ.shape Yf;have h:ρ.n=sz:=X ρ<|HC I
 have z:C7 (l.take j)=j*sz:=by rw[IQ<|X.take _,Dd,Ds (by omega)]
 let⟨p1,_⟩:=L3 ho I;rw[z,h] at p1;have LV:=S5 ho I (J.trans h.symm) Yf;rw[z,h] at LV;have aaC:l.length*sz<=cs.size:=by grind
 have G9:=RB (P:=P) (off:=j*sz) (Ry hT) U.size Z (by rw[J];omega) U.cell;rw[J] at G9;unfold Oper.wp;have er:(execOp a.eval ⟨none,.store T (.tmp p) x,ty,pos,af,none⟩).run P w= .ok .skip (w.setRow b (cs.toList.take (j*sz)++(a.eval x).cells.toList++cs.toList.drop (j*sz+sz)).toArray):=by simp[execOp,ep,Instr.storeAt,Instr.sureAddr,G9]
 rw[er,OF]
 generalize V:(cs.toList.take (j*sz)++(a.eval x).cells.toList++cs.toList.drop (j*sz+sz)).toArray=I7
 have hg:Dw w (w.setRow b I7) (some b):=Dw.setRow w b _;have C:(a.eval x).cells.toList.length=sz:=by rw[En,U.size,J]
 refine k a _ H (Mk M (G _<|B8 W) hg hB (by simp[AT.owns,e,Value.ownBlock]) ?_ λc z=> .inl z);refine⟨_,⟨?_,.inr ⟨b,cap,I7,by simpa using e,EU _,S9 w b _ _ _ _ Z,by simpa using A,O,?_,rfl⟩⟩,?_,?_⟩
 .grind
 .grind
 .have:List.take (l.length*sz) I7.toList=List.take (j*sz) xs++(a.eval x).cells.toList++List.drop (j*sz+sz) xs:=by rw[<-V,<-f];exact xG C (by omega) (by simp;omega)
  simp[J6];rw[this];exact LV
 .intro c z;simp[e,Value.ownBlock] at z;subst z;exact⟨hH,hB⟩
def ae7(f:look Γ p=some (.IB t j sz))(q:look Γ t=some (.buf E sz l))(z:Eu sz l)(A:l[j]? =some ρ)(C:Arg Γ x σ)(G:σ.n=sz)(I:Bj P T σ.n σ.agg=true):Step P N ops ⟨none,.store T (.tmp p) x,ty,pos,af,none⟩ Γ ((t,.buf E sz<|l.set j σ)::BH t Γ):=sr (λ_ h=>h) f q z A C G I
def adV(f:look Γ p=some (.IB t j sz))(h:look Γ t=some (.buf E sz l))(q:Eu sz l)(z:l[j]? =some ρ)(A:Arg Γ x σ)(C:σ.n=sz)(G:Bj P T σ.n σ.agg=true):Ma P N ops Γ ⟨none,.store T (.tmp p) x,ty,pos,af,none⟩ t (.buf E sz<|l.set j σ):=λ_ I=>sr I f h q z A C G
def tU(q:Eu sz l):∀{cs:A3 AW},Cx H l cs->∀(lo hi:Nat),Cx H ((l.take hi).drop lo) ((cs.take<|hi*sz).drop<|lo*sz):=by
 induction l with
 |nil=>intro cs h lo hi;have:cs=[]:=h;subst this;simp[Cx]
 |cons τ l ih=>
  rintro cs ⟨v,rest,e,A,C⟩ lo hi;subst e;have G:τ.n=sz:=q τ (by simp);have f:v.cells.toList.length=sz:=by rw[En,(τ.shape A).size,G]
  cases hi with
  |zero=>simp[Cx]
  |succ hi=>
   have I:List.take ((hi+1)*sz) (v.cells.toList++rest)=v.cells.toList++List.take (hi*sz) rest:=by
    rw[QE,N8,Uj,f,Ce (by omega)]
    congr 2;omega
   rw[I];cases lo with
   |zero=>have:=ih (λx z=>q x (by simp[z])) C 0 hi;simp[NB,dU,eI] at this⊢;exact⟨v,_,rfl,A,this⟩
   |succ lo=>
    have J:List.drop ((lo+1)*sz) (v.cells.toList++List.take (hi*sz) rest)=List.drop (lo*sz) (List.take (hi*sz) rest):=by rw[QE,N8,LC,f,Ke (by omega)];simp
    rw[J];exact ih (λx z=>q x (by simp[z])) C lo hi
theorem anS(A:Eu sz l){q:A9 Addr}{len cap:Nat}(h:(F2 l).ok H (.slice q len cap)){lo hi m:Nat}(U:lo<=hi)(C:hi<=l.length)(G:Nat)(V:hi-lo<=G)(W:m=lo->lo=hi):(F2<|(l.take hi).drop lo).ok H (.slice (if m=lo then q else q.map (·.add (lo*sz))) (hi-lo) G):=by
 let⟨X,qh,e,O,I⟩:=h;cases e;have f:((l.take hi).drop lo).length=hi-lo:=by simp;omega
 refine⟨if m=lo then q else q.map (·.add (lo*sz)),G,by rw[f],by omega,λY=>?_⟩;have z:l≠[]:=by grind
 have Z:lo<hi:=by grind
 let⟨b,off,cs,E,fr,e1,hb,hs,ho⟩:=I z;subst e1;have J: ¬m=lo:=λe=>by have:=W e;omega
 have hlc:C7 l=l.length*sz:=IQ A;have Li:(Eu sz<|(l.take hi).drop lo):=λx I=>A x<|OL<|SO I
 have M:C7 ((l.take hi).drop lo)=(hi-lo)*sz:=by rw[IQ Li,f]
 have R:hi*sz<=l.length*sz:=JA _ C;have asy:(hi-lo)*sz+lo*sz=hi*sz:=by rw[<-IX];congr 1;omega
 refine⟨b,off+lo*sz,cs,E,fr,by simp[J,addr_add],hb,by omega,?_⟩;have:=tU A ho lo hi;rw[M];have e2:List.take ((hi-lo)*sz) (List.drop (off+lo*sz) cs.toList)=List.drop (lo*sz) (List.take (hi*sz)<|List.take (C7 l)<|List.drop off cs.toList):=by
  rw[M5,Ds (by omega),Jy,Ee]
  congr 1;omega
 rw[e2];exact this
def aje{lo hi:A9 C9}{i:Nat}(V:Et P T sz=true)(W:Arg Γ x (F2 l))(X:Eu sz l)
 (Y:(lo=none/\i=0)\/∃y k,lo=some y/\Arg Γ y (TI k i))(q:(hi=none/\j=l.length)\/∃y k,hi=some y/\Arg Γ y (TI k j))(Z:i<=j)(Yj:j<=l.length):B0 P Γ ⟨d,.slice T x lo hi none,ty,pos,af,g⟩ (.val<|F2<|(l.take j).drop i):=
 DA λw0 _ _ a w H hs=>by
  have h:=W.ok hs;have A:=h;let⟨ad,cap,e,R,hxx⟩:=A;rw[e] at h;let⟨el,ii,C,G,I⟩:=oY V;have Rz:∀w,(Go.sizeOf el).run P w= .ok sz w:=λw=>by simp[Go.sizeOf,typeInfo,program,Sem.run,G,I]
  have J:(Instr.sliceBounds true l.length cap (lo.map a.eval) (hi.map a.eval) none).run P w= .ok (i,j,cap) w:=by
   have U:∀(k:IntKind) (f:BoundsCode),(Instr.sliceBound (.int k (j:Int)) cap f).run P w= .ok j w:=λk f=>by
    have:(j:Int)<=cap:=by omega
    simp[Instr.sliceBound,asIntOf];omega
   have b2:∀(k:IntKind) (f:BoundsCode),(Instr.sliceBound (.int k (i:Int)) j f).run P w= .ok i w:=λk f=>by simp[Instr.sliceBound,asIntOf];omega
   rcases Y with⟨e1,e2⟩|⟨y,k,e1,e2⟩<;>rcases q with⟨f1,f2⟩|⟨z,k',f1,f2⟩
   .subst e1;subst f1;subst e2;subst f2;simp[Instr.sliceBounds]
   .subst e1;subst f1;subst e2;have M:a.eval z= .int k' j:=f2.ok hs;simp[Instr.sliceBounds,M,U]
   .subst e1;subst f1;subst f2;have O:a.eval y= .int k i:=e2.ok hs;simp[Instr.sliceBounds,O,b2]
   .subst e1;subst f1;have O:a.eval y= .int k i:=e2.ok hs;have M:a.eval z= .int k' j:=f2.ok hs;simp[Instr.sliceBounds,O,M,U,b2]
  refine⟨_,?_,anS X h Z Yj (m:=cap) (cap-i) (by omega) (λe=>by omega),rfl⟩;have e3:a.eval x= .slice ad l.length cap:=e;simp[execOp,e3,Instr.sliceAt,E6 C,Instr.slice,J,Rz]
end
section
variable[D:DR]
variable{P:Program}{N:Nat}{ops:Array Oper}{Γ Ar:Ctx}{d:Option Tmp}{ty:TypeId}{pos:String}{af:Array Edge}{g:Option (Nat×Bool)}
variable{T:Ap}{α:Type}{x:C9}{f:α->Ty}{l:A3 α}{sz t:Nat}{n:Int}{y:C9}{E T':Ap}{k:IntKind}{i m r:Int}{H:HV}{w0:Ah P}{j p:Nat}{z:α}{ix:C9}{bytes:Nat}{v:AW}{off:Nat}{τ:Ty}{len dd:Nat}{T2:Ap}{a:Act}{w:AS}{FX:B9 Ap}{σ:Ty}{b:Bool}{lo hi:A9 C9}{H0:HV}{k':IntKind}{xs:A3 C9}{args Ct:A3 Ty}
def HH{o:Oper}{s s':AT}(h:B0 P Γ o s)(e:s=s'):B0 P Γ o s':=e▸h
@[reducible] def TS(l:A3 UInt8):Ty:=R4 ⟨l.toArray⟩
@[reducible] def lT{α:Type}(f:α->Ty)(l:A3 α):A3 Ty:=l.map f
@[reducible] def TL{α:Type}(f:α->Ty)(l:A3 α):Ty:=F2<|lT f l
@[reducible] def Vi{α:Type}(f:α->Ty)(l:A3 α):Ty:=Cl<|lT f l
def TN{α:Type}(f:α->Ty)(l:A3 α):Ty where
 n:=1
 agg:=false
 ok:=λH v=>(TL f l).ok H v/\(l=[]->v= .slice none 0 0)
 mono:=λh k=>⟨(TL f l).mono h k.1,k.2⟩
 shape:=λk=>(TL f l).shape k.1
def AB{α:Type}(l:A3 α):Int->A9 α
 | .ofNat n=>l[n]?| .negSucc _=>none
def Bo{α:Type}(l:A3 α)(lo hi:Int):A9 (A3 α):=bif decide (0<=lo)&&(decide (lo<=hi)&&decide (hi<=l.length)) then some ((l.take hi.toNat).drop lo.toNat) else none
def Gb(n:Int):Bool:=decide (-9223372036854775808<=n)&&decide (n<=9223372036854775807)
def AG(n:Int):A9 Int:=bif Gb n then some n else none
def BC{α:Type}(bytes:Nat)(l m:A3 α):A9 (A3 α):=bif decide ((l.length+m.length)*bytes<=140737488355328)&&decide (l.length+m.length<=9223372036854775807) then some (l++m) else none
def mk_{α:Type}(bytes:Nat)(n:Int)(z:α):A9 (A3 α):=bif decide (0<=n)&&(decide (n<=9223372036854775807)&&decide (bytes*n<=140737488355328)) then some (List.replicate n.toNat z) else none
def GZ(l m:A3 UInt8):A9 (A3 UInt8):=bif decide (l.length+m.length<=9223372036854775807) then some (l++m) else none
def FV(m n:Int):A9 Int:=bif decide (n=0) then none else AG (m.tdiv n)
def Ex(m n:Int):A9 Int:=bif decide (n=0) then none else some (m.tmod n)
def FP{x:α}(h:AB l i=some x):0<=i/\i<l.length/\l[i.toNat]? =some x:=by
 cases i with
 |ofNat n=>have q:l[n]? =some x:=h;have:=(EP.1 q).1;refine⟨Int.natCast_nonneg n,?_,q⟩;show(n:Int)<_;omega
 |negSucc n=>cases h
theorem xH{r:A3 α}{lo hi:Int}(h:Bo l lo hi=some r):0<=lo/\lo<=hi/\hi<=l.length/\r=(l.take hi.toNat).drop lo.toNat:=by grind [Bo]
def aiK(h:Gb n=true):Cd n:=by simpa[Gb,Cd] using h
theorem XV(h:AG n=some r):Cd n/\r=n:=by
 unfold AG at h;cases q:Gb n
 .grind
 .rw[q] at h;exact⟨aiK q,(E2 h).symm⟩
theorem XG{b:Nat}{m r:A3 α}(h:BC b l m=some r):(l.length+m.length)*b<=140737488355328/\l.length+m.length<=9223372036854775807/\r=l++m:=by grind [BC]
theorem am2{b:Nat}{r:A3 α}(h:mk_ b n z=some r):∃m:Nat,n=m/\m<=9223372036854775807/\b*m<=140737488355328/\r=List.replicate m z:=by
 unfold mk_ at h;cases q:(decide (0<=n)&&(decide (n<=9223372036854775807)&&decide (b*n<=140737488355328)))
 .grind
 .grind
theorem ahg{l m r:A3 UInt8}(h:GZ l m=some r):l.length+m.length<=9223372036854775807/\r=l++m:=by
 unfold GZ at h;cases q:decide (l.length+m.length<=9223372036854775807)
 .grind
 .grind
theorem akV(h:FV m n=some r):n≠0/\Cd (m.tdiv n)/\r=m.tdiv n:=by
 unfold FV at h;cases q:decide (n=0)
 .rw[q] at h;let⟨A,C⟩:=XV h;exact⟨BX q,A,C⟩
 .grind
theorem ajK(h:Ex m n=some r):n≠0/\r=m.tmod n:=by
 unfold Ex at h;cases q:decide (n=0)
 .grind
 .grind
def aN(l:A3 UInt8):(⟨l.toArray⟩:ByteArray).toList=l:=by
 have key:∀(b:ByteArray) (n:Nat) (i:Nat) (r:A3 UInt8),b.size-i=n->i<=b.size->ByteArray.toList.loop b i r=r.reverse++b.data.toList.drop i:=by
  intro b n
  induction n with
  |zero=>
   intro i r q hi;unfold ByteArray.toList.loop;have: ¬i<b.size:=by omega
   rw[if_neg this,List.drop_eq_nil_of_le (by simp[En];exact Y7 this)];simp
  |succ n ih=>
   intro i r q hi;unfold ByteArray.toList.loop;have h:i<b.size:=by omega
   rw[if_pos h,ih (i+1) _ (by omega) (by omega)];have A:i<b.data.toList.length:=by simpa using h
   rw[SV A];have:b.get! i=b.data.toList[i]:=by
    cases b with
    |mk a=>show a[i]! =_;rw[Hz a i h];simp
   simp[this]
 unfold ByteArray.toList;rw[key _ _ 0 [] rfl<|EU _];simp
def Arg.s{b:ByteArray}{l:A3 UInt8}(h:b=⟨l.toArray⟩):Arg Γ (.const<| .string b) (TS l):=⟨λ_=>by subst h;rfl⟩
def Arg.nn:Arg Γ (.const<| .slice none 0 0) (TN f []):=⟨λhs=>⟨(Arg.apP (Γ:=Γ)).ok hs,λ_=>rfl⟩⟩
def qo:∀H v,(TN f l).ok H v->(TL f l).ok H v:=λ_ _ h=>h.1
theorem qp(h:l.isEmpty=false):∀H v,(TL f l).ok H v->(TN f l).ok H v:=by simp_all [Ty.ok,TL,TN]
def LA{m n r:A3 UInt8}(A:Arg Γ x (TS m))(C:Arg Γ y (TS n))(h:GZ m n=some r):B0 P Γ ⟨d,.binOp .add T x y T',ty,pos,af,g⟩ (.val<|TS r):=
 GP A C λH u v G I w _=>by
  cases G;cases I;let⟨R,J⟩:=ahg h;subst J;have q: ¬(((⟨m.toArray⟩:ByteArray).size+(⟨n.toArray⟩:ByteArray).size:Nat):Int)>IntKind.i64.max:=by
   have M:(⟨m.toArray⟩:ByteArray).size=m.length:=by simp[ByteArray.size]
   have O:(⟨n.toArray⟩:ByteArray).size=n.length:=by simp[ByteArray.size]
   rw[M,O];have:IntKind.i64.max=9223372036854775807:=rfl;rw[this];omega
  refine⟨.string<|⟨m.toArray⟩++⟨n.toArray⟩,?_,?_⟩
  .simp only[eqGuard,binOp,Op.stringOp,if_neg q];rfl
  .show Value.string _=Value.string _
   congr 1
def LI{m n:A3 UInt8}(h:Arg Γ x (TS m))(q:Arg Γ y (TS n)):B0 P Γ ⟨d,.binOp .eql T x y T',ty,pos,af,g⟩ (.val<|Az<|m==n):=by have:=anx (P:=P) (d:=d) (ty:=ty) (pos:=pos) (af:=af) (g:=g) (T:=T) (T':=T') h q;rwa [aN,aN] at this
def fZ{m n:A3 UInt8}(h:Arg Γ x (TS m))(q:Arg Γ y (TS n)):B0 P Γ ⟨d,.binOp .neq T x y T',ty,pos,af,g⟩ (.val<|Az<| !(m==n)):=by have:=anp (P:=P) (d:=d) (ty:=ty) (pos:=pos) (af:=af) (g:=g) (T:=T) (T':=T') h q;rwa [aN,aN] at this
def Dc{s:A3 UInt8}(h:isStr P T=true)(q:Arg Γ x (TS s)):B0 P Γ ⟨d,.call ⟨.builtin .len,#[x],#[T]⟩,ty,pos,af,g⟩ (.val<|TI .i64 s.length):=by
 have:=agL (P:=P) (d:=d) (ty:=ty) (pos:=pos) (af:=af) (g:=g) h q;have e:(⟨s.toArray⟩:ByteArray).size=s.length:=by simp[ByteArray.size]
 rwa [e] at this
def KS{s:A3 UInt8}{b:UInt8}(G:isStr P T=true)(I:Arg Γ x (TS s))(J:Arg Γ y (TI k i))(h:AB s i=some b):B0 P Γ ⟨d,.index T x y,ty,pos,af,g⟩ (.val<|TI .u8 b.toNat):=
 DA λ_ _ _ a w H hs=>by
  have e:a.eval x= .string ⟨s.toArray⟩:=I.ok hs;have M:a.eval y= .int k i:=J.ok hs;let⟨O,U,A⟩:=FP h;have q:=(EP.1 A).1;have R:(⟨s.toArray⟩:ByteArray)[i.toNat]? =some b:=by
   have C:i.toNat<(⟨s.toArray⟩:ByteArray).size:=by simpa[ByteArray.size] using q
   rw[getElem?_pos (⟨s.toArray⟩:ByteArray) i.toNat C]
   congr 1
   show s.toArray[i.toNat]'_=b;rw[FT q] at A;simpa using A
  exact⟨_,by simp[execOp,e,M,Instr.index,asIntOf,E6<|lY G,O,R],rfl,rfl⟩
inductive Lo(Γ:Ctx):A9 C9->Int->Int->Prop where
 |none {n:Int}:Lo Γ none n n|some {y:C9} {k:IntKind} {i n:Int} (h:Arg Γ y (TI k i)):Lo Γ (some y) n i
def sU{cap:Nat}{j:Int}(M:Lo Γ lo 0 i)(q:Lo Γ hi len j)(O:0<=i)(W:i<=j)(X:j<=len)(R:len<=cap){N:Nat}(hs:Sat w0 H0 N Γ a w H):(Instr.sliceBounds b len cap (lo.map a.eval) (hi.map a.eval) none).run P w= .ok (i.toNat,j.toNat,cap) w:=by
 have J:∀(k:IntKind) (h:BoundsCode),(Instr.sliceBound (.int k j) cap h).run P w= .ok j.toNat w:=λk h=>by
  have:0<=j/\j<=cap:=by omega
  simp[Instr.sliceBound,asIntOf,this]
 have b2:∀(k:IntKind) (h:BoundsCode),(Instr.sliceBound (.int k i) j.toNat h).run P w= .ok i.toNat w:=λk h=>by
  have U:i<=(j.toNat:Int):=by omega
  simp only[Instr.sliceBound,asIntOf,DS,I2,DH,if_pos<|And.intro O U]
 cases M with
 |none=>cases q with|none=>simp[Instr.sliceBounds]|some C=>have A:=C.ok hs;simp[qq] at A;simp[Instr.sliceBounds,A,J]
 |some V=>
  have G:=V.ok hs;simp[qq] at G;cases q with
  |none=>
   have I:∀(k:IntKind) (h:BoundsCode),(Instr.sliceBound (.int k i) len h).run P w= .ok i.toNat w:=λk h=>by simpa using b2 k h
   simp[Instr.sliceBounds,G,I]
  |some C=>have A:=C.ok hs;simp[qq] at A;simp[Instr.sliceBounds,A,G,J,b2]
def Fv{s r:A3 UInt8}{j:Int}(G:isStr P T=true)(I:Arg Γ x (TS s))(J:Lo Γ lo 0 i)(q:Lo Γ hi s.length j)(h:Bo s i j=some r):B0 P Γ ⟨d,.slice T x lo hi none,ty,pos,af,g⟩ (.val<|TS r):=
 DA λ_ _ _ a w H hs=>by
  let⟨M,O,R,U⟩:=xH h;subst U;have e:a.eval x= .string ⟨s.toArray⟩:=I.ok hs;have A:(⟨s.toArray⟩:ByteArray).size=s.length:=by simp[ByteArray.size]
  have C:=sU (P:=P) (b:=false) J q M O R (BJ _) hs;refine⟨.string<|(⟨s.toArray⟩:ByteArray).extract i.toNat j.toNat,?_,?_,rfl⟩
  .simp[execOp,e,Instr.sliceAt,E6<|lY G,Instr.slice,A,C]
  .show Value.string _=Value.string _
   congr 1
   apply ByteArray.ext;rw[ByteArray.data_extract];simp[List.extract_eq_take_drop,Jy]
def It(h:DJ P T=true)(q:Arg Γ x (TL f l)):B0 P Γ ⟨d,.call ⟨.builtin .len,#[x],#[T]⟩,ty,pos,af,g⟩ (.val<|TI .i64 l.length):=by have:=anu (P:=P) (d:=d) (ty:=ty) (pos:=pos) (af:=af) (g:=g) h q;rwa [BL] at this
def Jp{s:Nat}(h:DJ P T=true)(hs:look Γ s=some (.same t))(q:look Γ t=some (.buf E sz<|lT f l)):B0 P Γ ⟨d,.call ⟨.builtin .len,#[.tmp s],#[T]⟩,ty,pos,af,g⟩ (.val<|TI .i64 l.length):=by have:=afK (P:=P) (d:=d) (ty:=ty) (pos:=pos) (af:=af) (g:=g) h hs q;rwa [BL] at this
def zH(q:DJ P T=true)(A:look Γ t=some (.buf E sz<|lT f l)):B0 P Γ ⟨d,.call ⟨.builtin .len,#[.tmp t],#[T]⟩,ty,pos,af,g⟩ (.val<|TI .i64 l.length):=
 DA λ_ _ _ a w H C=>by
  let⟨G,cap,e⟩:=aBQ<|C.holds _<|B8 A
  have h:a.eval (.tmp t)= .slice G (lT f l).length cap:=e;rw[BL] at h;exact⟨_,by simp[execOp,resolve,invoke,builtin,h,lQ q],rfl,rfl⟩
def DW{y:α}(q:Et P T sz=true)(A:∀z,(f z).n=sz)(C:Arg Γ x (TL f l))(hi:Arg Γ ix (TI k i))(h:AB l i=some y):B0 P Γ ⟨d,.indexAddr T x ix,ty,pos,af,g⟩ (.val<|GH<|f y):=by let⟨G,J,I⟩:=FP h;exact afL C q (Hy A l) hi G (by rw[Fp,I];rfl)
def CV{s:Nat}{y:α}(q:Et P T sz=true)(hs:look Γ s=some (.same t))(A:look Γ t=some (.buf E sz<|lT f l))(hi:Arg Γ ix (TI k i))(h:AB l i=some y):B0 P Γ ⟨d,.indexAddr T (.tmp s) ix,ty,pos,af,g⟩ (.IB t i.toNat sz):=by let⟨C,G,I⟩:=FP h;exact aea hs A q hi C (by rw[BL];exact G)
def EE{y:α}(q:∀z,(f z).n=sz)(A:look Γ p=some (.IB t j sz))(C:look Γ t=some (.buf E sz<|lT f l))(h:l[j]? =some y)(G:Bj P T (f y).n (f y).agg=true):B0 P Γ ⟨d,.load T<| .tmp p,ty,pos,af,g⟩ (.val<|f y):=aeY A C (Hy q l) (by rw[Fp,h];rfl) G
def Hg{y:α}(q:∀z,(f z).n=sz)(A:look Γ p=some (.IB t j sz))(C:look Γ t=some (.buf E sz<|lT f l))(h:l[j]? =some z)(G:Arg Γ x (f y))(I:Bj P T (f y).n (f y).agg=true):Step P N ops ⟨none,.store T (.tmp p) x,ty,pos,af,none⟩ Γ ((t,.buf E sz<|lT f<|l.set j y)::BH t Γ):=by have:=ae7 (P:=P) (N:=N) (ops:=ops) (ty:=ty) (pos:=pos) (af:=af) A C (Hy q l) (by rw[Fp,h];rfl) G (q y) I;rwa [show(lT f l).set j (f y)=lT f (l.set j y) from by simp[lT,SB]] at this
def oU{y:α}(q:∀z,(f z).n=sz)(A:look Γ p=some (.IB t j sz))(C:look Γ t=some (.buf E sz<|lT f l))(h:l[j]? =some z)(G:Arg Γ x (f y))(I:Bj P T (f y).n (f y).agg=true):Ma P N ops Γ ⟨none,.store T (.tmp p) x,ty,pos,af,none⟩ t (.buf E sz<|lT f<|l.set j y):=by have:=adV (P:=P) (N:=N) (ops:=ops) (ty:=ty) (pos:=pos) (af:=af) A C (Hy q l) (by rw[Fp,h];rfl) G (q y) I;rwa [show(lT f l).set j (f y)=lT f (l.set j y) from by simp[lT,SB]] at this
def Sv:maxLen=9223372036854775807:=rfl
def DK{m r:A3 α}{s:Nat}(FL:DJ P T2=true)(q:Es P T E sz bytes=true)(A:∀z,(f z).n=sz)(hs:look Γ s=some (.same t))(C:look Γ t=some (.buf E sz<|lT f l))(G:Arg Γ x (TL f m))(h:BC bytes l m=some r)(I:dd<N):Step P N ops ⟨some dd,.call ⟨.builtin .append,#[.tmp s,x],#[T,T2]⟩,ty,pos,af,none⟩ Γ ((dd,.buf E sz<|lT f r)::del dd (BH t Γ)):=by let⟨J,M,O⟩:=XG h;subst O;have:=ahO (P:=P) (FL:=FL) (N:=N) (ops:=ops) (ty:=ty) (pos:=pos) (af:=af) hs C G q (Hy A m) (by rw[BL,BL,Sv];exact M) (by rw[BL,BL];exact J) I;rwa [show lT f l++lT f m=lT f (l++m) from by simp[lT]] at this
def O9{m r:A3 α}(FL:DJ P T2=true)(q:Es P T E sz bytes=true)(A:∀z,(f z).n=sz)(C:look Γ t=some (.buf E sz<|lT f l))(G:Arg Γ x (TL f m))(h:BC bytes l m=some r)(I:dd<N):Step P N ops ⟨some dd,.call ⟨.builtin .append,#[.tmp t,x],#[T,T2]⟩,ty,pos,af,none⟩ Γ ((dd,.buf E sz<|lT f r)::del dd (BH t Γ)):=by let⟨J,M,O⟩:=XG h;subst O;have:=afv (P:=P) (FL:=FL) (N:=N) (ops:=ops) (ty:=ty) (pos:=pos) (af:=af) C G q (Hy A m) (by rw[BL,BL,Sv];exact M) (by rw[BL,BL];exact J) I;rwa [show lT f l++lT f m=lT f (l++m) from by simp[lT]] at this
def Px{m r:A3 α}{s:Nat}(FL:DJ P T2=true)(q:Es P T E sz bytes=true)(A:∀z,(f z).n=sz)(hs:look Γ s=some (.same t))(C:look Γ t=some (.buf E sz<|lT f l))(G:Arg Γ x (TL f m))(h:BC bytes l m=some r)(I:dd<N):Nh P N ops Γ ⟨some dd,.call ⟨.builtin .append,#[.tmp s,x],#[T,T2]⟩,ty,pos,af,none⟩ t dd (.buf E sz<|lT f r):=by let⟨J,M,O⟩:=XG h;subst O;have:=aiR (P:=P) (FL:=FL) (N:=N) (ops:=ops) (ty:=ty) (pos:=pos) (af:=af) hs C G q (Hy A m) (by rw[BL,BL,Sv];exact M) (by rw[BL,BL];exact J) I;rwa [show lT f l++lT f m=lT f (l++m) from by simp[lT]] at this
def amV{m r:A3 α}{s:Nat}{q:v.oneCell'=true}(FL:DJ P T2=true)(A:Es P T E sz bytes=true)(C:∀z,(f z).n=sz)(hs:look Γ s=some (.val<|TEq v q))(G:look Γ t=some (.LY v E sz<|lT f l))(I:Arg Γ x (TL f m))(h:BC bytes l m=some r)(J:dd<N):Nh P N ops Γ ⟨some dd,.call ⟨.builtin .append,#[.tmp s,x],#[T,T2]⟩,ty,pos,af,none⟩ t dd (.buf E sz<|lT f r):=λV M=>by let⟨O,R,U⟩:=XG h;subst U;have:=afu (P:=P) (FL:=FL) (N:=N) (ops:=ops) (ty:=ty) (pos:=pos) (af:=af) M hs G I A (Hy C m) (by rw[BL,BL,Sv];exact R) (by rw[BL,BL];exact O) J;rwa [show lT f l++lT f m=lT f (l++m) from by simp[lT]] at this
def J0{m r:A3 α}(FL:DJ P T2=true)(q:Es P T E sz bytes=true)(A:∀z,(f z).n=sz)(C:look Γ t=some (.buf E sz<|lT f l))(G:Arg Γ x (TL f m))(h:BC bytes l m=some r)(I:dd<N):Nh P N ops Γ ⟨some dd,.call ⟨.builtin .append,#[.tmp t,x],#[T,T2]⟩,ty,pos,af,none⟩ t dd (.buf E sz<|lT f r):=by let⟨J,M,O⟩:=XG h;subst O;have:=agX (P:=P) (FL:=FL) (N:=N) (ops:=ops) (ty:=ty) (pos:=pos) (af:=af) C G q (Hy A m) (by rw[BL,BL,Sv];exact M) (by rw[BL,BL];exact J) I;rwa [show lT f l++lT f m=lT f (l++m) from by simp[lT]] at this
def C1(f:α->Ty)(E:Ap)(sz:Nat):B0 P Γ ⟨d,.assign<| .const<| .slice none 0 0,ty,pos,af,g⟩ (.buf E sz<|lT f []):=ai9
def C4(h:look Γ t=some (.buf E sz<|lT f l)):GX w0 N Γ ((t,.val<|TL f l)::BH t Γ):=aln h
def NT(f:α->Ty){r:A3 α}(A:mkB P T E sz bytes=true)(C:DF P E (f z))(q:(f z).n=sz)(G:Arg Γ x (TI .i64 n))(I:Arg Γ y (TI .i64 n))(h:mk_ bytes n z=some r):B0 P Γ ⟨d,.makeSlice T x y,ty,pos,af,g⟩ (.buf E sz<|lT f r):=by let⟨m,J,M,O,R⟩:=am2 h;subst J;subst R;have:=alv (P:=P) (d:=d) (ty:=ty) (pos:=pos) (af:=af) (g:=g) A C q G I M O;rwa [show List.replicate m (f z)=lT f (List.replicate m z) from by simp[lT]] at this
def JN{r:A3 α}{j:Int}(I:Et P T sz=true)(J:∀z,(f z).n=sz)(M:Arg Γ x (TL f l))(O:Lo Γ lo 0 i)(q:Lo Γ hi l.length j)(h:Bo l i j=some r):B0 P Γ ⟨d,.slice T x lo hi none,ty,pos,af,g⟩ (.val<|TL f r):=by
 let⟨U,V,W,R⟩:=xH h;subst R;have A:((i.toNat:Nat):Int)=i:=by omega
 have C:((j.toNat:Nat):Int)=j:=by omega
 have:=aje (P:=P) (d:=d) (ty:=ty) (pos:=pos) (af:=af) (g:=g) (lo:=lo) (hi:=hi) (i:=i.toNat) (j:=j.toNat) I M (Hy J l)
  (by cases O with|none=>exact .inl ⟨rfl,rfl⟩|some G=>exact .inr ⟨_,_,rfl,by rw[A];exact G⟩)
  (by cases q with|none=>exact .inl ⟨rfl,by rw[BL];omega⟩|some G=>exact .inr ⟨_,_,rfl,by rw[C];exact G⟩)
  (by omega) (by rw[BL];omega)
 rwa [show((lT f l).take j.toNat).drop i.toNat=lT f ((l.take j.toNat).drop i.toNat) from by simp[lT,pS,List.map_drop]] at this
def wD(h:DJ P T=true)(q:A9 Addr)(n c:Nat)(w:AS):(Op.equal T (.slice q n c)<| .slice none 0 0).run P w= .ok q.isNone w:=by
 let⟨e,A⟩:=bH h;have key:∀d,(Op.equalIn (d+1) T (.slice q n c)<| .slice none 0 0).run P w= .ok q.isNone w:=by intro d;unfold Op.equalIn;cases q<;>simp[E6 A]
 exact key 9999
def aaQ(h:(TN f l).ok H v):∃q n c,v= .slice q n c/\q.isNone=l.isEmpty:=by
 let⟨⟨q,cap,e,_,A⟩,C⟩:=h;cases l with
 |nil=>exact⟨none,0,0,C rfl,rfl⟩
 |cons y l=>let⟨b,off,cs,E,fr,G,_⟩:=A (by simp[lT]);exact⟨q,_,cap,e,by subst G;rfl⟩
def K2(q:DJ P T=true)(A:Arg Γ x (TN f l)):B0 P Γ ⟨d,.binOp .eql T x (.const<| .slice none 0 0) T',ty,pos,af,g⟩ (.val<|Az l.isEmpty):=
 DA λ_ _ _ a w H hs=>by
  let⟨C,n,c,e,h⟩:=aaQ<|A.ok hs
  refine⟨.bool C.isNone,?_,by rw[h];rfl,rfl⟩;have G:a.eval (.const<| .slice none 0 0)= .slice none 0 0:=rfl;simp[execOp,e,G,eqGuard,binOp,wD q]
def anq(q:DJ P T=true)(A:Arg Γ x (TN f l)):B0 P Γ ⟨d,.binOp .neq T x (.const<| .slice none 0 0) T',ty,pos,af,g⟩ (.val<|Az<| !l.isEmpty):=
 DA λ_ _ _ a w H hs=>by
  let⟨C,n,c,e,h⟩:=aaQ<|A.ok hs
  refine⟨.bool<| !C.isNone,?_,by rw[h];rfl,rfl⟩;have G:a.eval (.const<| .slice none 0 0)= .slice none 0 0:=rfl;simp[execOp,e,G,eqGuard,binOp,wD q]
def CX(q:Arg Γ x (TI .i64 m))(A:Arg Γ y (TI .i64 n))(h:AG (m+n)=some r):B0 P Γ ⟨d,.binOp .add T x y T',ty,pos,af,g⟩ (.val<|TI .i64 r):=by let⟨C,G⟩:=XV h;subst G;exact alx q A C
def CF(q:Arg Γ x (TI .i64 m))(A:Arg Γ y (TI .i64 n))(h:AG (m-n)=some r):B0 P Γ ⟨d,.binOp .sub T x y T',ty,pos,af,g⟩ (.val<|TI .i64 r):=by let⟨C,G⟩:=XV h;subst G;exact alq q A C
def JQ(q:Arg Γ x (TI .i64 m))(A:Arg Γ y (TI .i64 n))(h:AG (m*n)=some r):B0 P Γ ⟨d,.binOp .mul T x y T',ty,pos,af,g⟩ (.val<|TI .i64 r):=by let⟨C,G⟩:=XV h;subst G;exact alu q A C
def ou(q:Arg Γ x (TI .i64 n))(h:AG (-n)=some r):B0 P Γ ⟨d,.unOp .neg T x,ty,pos,af,g⟩ (.val<|TI .i64 r):=by let⟨A,C⟩:=XV h;subst C;exact als q A
def L9(q:Arg Γ x (TI .i64 m))(A:Arg Γ y (TI .i64 n))(h:FV m n=some r):B0 P Γ ⟨d,.binOp .quo T x y T',ty,pos,af,g⟩ (.val<|TI .i64 r):=by let⟨C,G,I⟩:=akV h;subst I;exact alr q A C G
def Is(q:Arg Γ x (TI k m))(A:Arg Γ y (TI k n))(h:Ex m n=some r):B0 P Γ ⟨d,.binOp .rem T x y T',ty,pos,af,g⟩ (.val<|TI k r):=by let⟨C,G⟩:=ajK h;subst G;exact ano q A C
@[reducible] def wr(k:IntKind)(n:Int):Int:=k.wrap n
def TB(k:IntKind)(m n:Int):A9 Int:=bif decide (n=0) then none else some (wr k<|m.tdiv n)
theorem ot(A:Arg Γ x (TI k m))(C:Arg Γ y (TI k n))(h:TB k m n=some r):B0 P Γ ⟨d,.binOp .quo T x y T',ty,pos,af,g⟩ (.val<|TI k r):=by
 unfold TB at h;cases q:decide (n=0)
 .rw[q] at h;have:=(E2 h);subst this;exact aDo A C<|BX q
 .grind
def FH(h:BinOp)(k:IntKind)(x y:Int):Int:=
 let a:=BitVec.ofInt k.bits x
 let b:=BitVec.ofInt k.bits y
 match h with| .and=>k.wrap (a&&&b).toNat| .or=>k.wrap (a|||b).toNat| .xor=>k.wrap (a^^^b).toNat| .andNot=>k.wrap (a&&& ~~~b).toNat|_=>0
def p7(h:Arg Γ x (TI k m))(q:Arg Γ y (TI k n)):B0 P Γ ⟨d,.binOp .and T x y T',ty,pos,af,g⟩ (.val<|TI k<|FH .and k m n):=
 GP h q λH u v A C w _=>by cases A;cases C;exact⟨_,by simp[eqGuard,binOp,Op.intBits];rfl,rfl⟩
def qB(h:Arg Γ x (TI k m))(q:Arg Γ y (TI k n)):B0 P Γ ⟨d,.binOp .or T x y T',ty,pos,af,g⟩ (.val<|TI k<|FH .or k m n):=
 GP h q λH u v A C w _=>by cases A;cases C;exact⟨_,by simp[eqGuard,binOp,Op.intBits];rfl,rfl⟩
def KD(k:IntKind)(x y:Int):A9 Int:=bif decide (y<0) then none else some (k.wrap<|x*2^(min y.toNat k.bits))
def KC(k:IntKind)(x y:Int):A9 Int:=bif decide (y<0) then none else some (x.fdiv<|2^(min y.toNat k.bits))
theorem YV(A:Arg Γ x (TI k m))(C:Arg Γ y (TI k' n))(h:KD k m n=some r):B0 P Γ ⟨d,.binOp .shl T x y T',ty,pos,af,g⟩ (.val<|TI k r):=
 GP A C λH u v G I w _=>by
  cases G;cases I;unfold KD at h;cases q:decide (n<0)
  .rw[q] at h;have:=E2 h;subst this;exact⟨_,by simp only[eqGuard,binOp,Op.shift,if_neg<|BX q];rfl,rfl⟩
  .grind
theorem Sj(A:Arg Γ x (TI k m))(C:Arg Γ y (TI k' n))(h:KC k m n=some r):B0 P Γ ⟨d,.binOp .shr T x y T',ty,pos,af,g⟩ (.val<|TI k r):=
 GP A C λH u v G I w _=>by
  cases G;cases I;unfold KC at h;cases q:decide (n<0)
  .rw[q] at h;have:=E2 h;subst this;exact⟨_,by simp only[eqGuard,binOp,Op.shift,if_neg<|BX q];rfl,rfl⟩
  .grind
def aqm:IntKind->IntKind->Bool:=λa b=>decide<|a=b
def R0(P:Bz)(T:Ap)(k:IntKind):Bool:=match P.underlying T with|some (.int k')=>aqm k k'|_=>false
def wZ(h:R0 P T k=true):P.underlying T=some (.int k):=by
 unfold R0 at h;split at h
 .rename_i k' hu;rw[hu,Aq h]
 .cases h
def Pt{S:Ap}(h:R0 P S k=true)(q:R0 P T k'=true)(A:Arg Γ x (TI k n)):B0 P Γ ⟨d,.convert S T x,ty,pos,af,g⟩ (.val<|TI k'<|wr k' n):=
 DA λ_ _ _ a w H hs=>by have e:a.eval x= .int k n:=A.ok hs;exact⟨_,by simp[execOp,e,convert,E6<|wZ h,E6<|wZ q,Conv.intToInt],rfl,rfl⟩
def p6{m n:Bool}(h:VX P T=true)(q:Arg Γ x (Az m))(A:Arg Γ y (Az n)):B0 P Γ ⟨d,.binOp .eql T x y T',ty,pos,af,g⟩ (.val<|Az<|m==n):=anz h q A
def ow{m n:Bool}(h:VX P T=true)(A:Arg Γ x (Az m))(C:Arg Γ y (Az n)):B0 P Γ ⟨d,.binOp .neq T x y T',ty,pos,af,g⟩ (.val<|Az<| !(m==n)):=
 GP A C λH u v q G w _=>by
  cases q;cases G;have q:P.underlying T=some .bool:=by
   unfold VX at h;split at h
   .assumption
   .cases h
  refine⟨.bool<| !(m==n),?_,rfl⟩;have e:(Op.equal T (.bool m)<| .bool n).run P w= .ok (m==n) w:=run_equalIn_bool w 9999 T m n q;simp[eqGuard,binOp,e]
def mx_(x y:Int):Int:=bif decide (x<y) then y else x
def mn_(x y:Int):Int:=bif decide (y<x) then y else x
theorem dJ(h:Arg Γ x (TI k m))(q:Arg Γ y (TI k n)):B0 P Γ ⟨d,.call ⟨.builtin .max,#[x,y],FX⟩,ty,pos,af,g⟩ (.val<|TI k<|mx_ m n):=
 DA λ_ _ _ a w H hs=>by
  have e:a.eval x= .int k m:=h.ok hs;have A:a.eval y= .int k n:=q.ok hs;refine⟨.int k<|if n>m then n else m,?_,?_,rfl⟩
  .simp[execOp,resolve,invoke,builtin,e,A,Builtin.max_,Builtin.max2]
  .show Value.int k _=Value.int k _;unfold mx_;cases C:decide (m<n)
   .grind
   .grind
theorem zG(h:Arg Γ x (TI k m))(q:Arg Γ y (TI k n)):B0 P Γ ⟨d,.call ⟨.builtin .min,#[x,y],FX⟩,ty,pos,af,g⟩ (.val<|TI k<|mn_ m n):=
 DA λ_ _ _ a w H hs=>by
  have e:a.eval x= .int k m:=h.ok hs;have A:a.eval y= .int k n:=q.ok hs;refine⟨.int k<|if n<m then n else m,?_,?_,rfl⟩
  .simp[execOp,resolve,invoke,builtin,e,A,Builtin.min_,Builtin.min2]
  .show Value.int k _=Value.int k _;unfold mn_;cases C:decide (n<m)
   .grind
   .grind
structure pf(P:Bz)(f:FuncId)(args:A3 Ty)(Ct:A3 Ty):Prop where
 run:∀(w:AS) (H:HV) (vs:A3 AW),Du H args vs->∃v w',(callFunc f vs.toArray).run P w= .ok (.value v) w'/\Ea w.heap.size w w'/\JE H Ct v
def NM{f:FuncId}(A:pf P f args Ct)(C:AR Γ xs args):B0 P Γ ⟨d,.call ⟨.value<| .func f,xs.toArray,FX⟩,ty,pos,af,g⟩ (Gs Ct):=
 Jn λw0 H0 N a w H hs=>by
  let⟨v,w',G,q,I⟩:=A.run w H _<|C.ok hs
  have e:execOp a.eval ⟨d,.call ⟨.value<| .func f,xs.toArray,FX⟩,ty,pos,af,g⟩=callFunc f (#[]++xs.toArray.map a.eval++ #[]):=rfl;have J:(#[]++xs.toArray.map a.eval++ #[])=(xs.map a.eval).toArray:=by simp
  refine⟨v,w',H,by rw[e,J,G],⟨q,HV.le.refl _,λ_ _=>rfl,λr o h=>?_⟩,U3 I,λb e=>absurd e<|AT.free_spec UC⟩;rw[q.block r<|Ft hs.sub h];exact hs.sub r o h
def nW{n:Nat}{agg:Bool}(h:Bj P T n agg=true){cs:B9 AW}(I:off+n<=cs.size)(w:AS):(part T cs off).run P w= .ok (Fc agg ((cs.toList.drop off).take n).toArray) w:=by
 let⟨A,C,G⟩:=y8 h;cases agg
 .have hn:=G rfl;subst hn;have q:off<cs.size:=by omega
  simp[part,A,q,Fc]
 .simp[part,DS,A,C,DH,if_true,I2,Fc]
  congr 2
  apply Array.ext';simp[Array.toList_extract,List.extract_eq_take_drop]
def gG(P:Bz)(T F:Ap)(k off:Nat):Bool:=
 match P.underlying T with
 |some (.struct fs)=>match fs[k]? with|some f=>Nat.beq f.offset off&&Nat.beq f.type F|none=>false
 |_=>false
def uC{F:Ap}{k:Nat}(h:gG P T F k off=true)(hF:Bj P F σ.n σ.agg=true)(C:τ.agg=true)(G:Arg Γ x τ)(I:BM τ off σ):B0 P Γ ⟨d,.field T x k,ty,pos,af,g⟩ (.val σ):=
 DA λ_ _ _ a w H hs=>by
  have q:=G.ok hs;let⟨A,J⟩:=I _ _ q;have M:=τ.shape q;have e:a.eval x= .agg (a.eval x).cells:=by rw[<-show Fc τ.agg (a.eval x).cells= .agg (a.eval x).cells from by rw[C];rfl];exact M.eq
  unfold gG at h;split at h
  .rename_i fs hu;split at h
   .rename_i fd hfd;simp only[Bq] at h;have O:=DX h.1;have R:=DX h.2;refine⟨_,?_,J,rfl⟩
    generalize (a.eval x).cells=cs at e A
    have U:=nW (P:=P) hF A w;simp[execOp,e,Instr.field,DS,E6 hu,DH,hfd,asAgg,I2,O,R,U]
   .cases h
  .cases h
def gw(P:Bz)(T E:Ap)(len sz:Nat):Bool:=
 match P.underlying T with
 |some (.array n e)=>Nat.beq n len&&Nat.beq e E&&(match P.info? e with|some i=>Nat.beq i.size sz|none=>false)
 |_=>false
def BM.arr{i:Nat}{y:α}(q:∀z,(f z).n=sz)(h:l[i]? =some y):BM (Vi f l) (i*sz) (f y):=by refine BM.agg (i:=i) (by rw[Fp,h];rfl) ?_;have A:=(EP.1 h).1;rw[IQ<|(Hy q l).take i,Dd,BL,Ds (by omega)]
def F4.arr{i:Nat}{y:α}(q:∀z,(f z).n=sz)(h:l[i]? =some z):F4 (Vi f l) (i*sz) (f y) (Vi f<|l.set i y):=by have A:=(EP.1 h).1;have:=F4.agg (l:=lT f l) (i:=i) (off:=i*sz) (σ:=f y) (ρ:=f z) (by rw[Fp,h];rfl) (by rw[q,q]) (by rw[IQ<|(Hy q l).take i,Dd,BL,Ds (by omega)]);rwa [show(lT f l).set i (f y)=lT f (l.set i y) from by simp[lT,SB]] at this
def Xp{y:α}(q:gw P T E len sz=true)(U:Bj P E (f y).n (f y).agg=true)(V:∀z,(f z).n=sz)(M:l.length=len)(W:Arg Γ x (Vi f l))(hi:Arg Γ ix (TI k i))(h:AB l i=some y):B0 P Γ ⟨d,.index T x ix,ty,pos,af,g⟩ (.val<|f y):=
 DA λ_ _ _ a w H hs=>by
  let⟨X,h1,Y⟩:=FP h;have O:=W.ok hs;let⟨C,G⟩:=BM.arr V Y _ _ O;let⟨cs,e,_⟩:=O;have Z:a.eval ix= .int k i:=hi.ok hs;rw[e] at C G;simp[Value.cells] at C G;unfold gw at q;split at q
  .rename_i n el hu;simp only[Bq] at q;let⟨⟨R,I⟩,A⟩:=q;have R:=DX R;have I:=DX I;subst I;split at A
   .rename_i ii hii;have A:=DX A;have hr:=nW (P:=P) U C w;have J:(Go.sizeOf el).run P w= .ok sz w:=by simp[Go.sizeOf,typeInfo,program,Sem.run,hii,A]
    have hb:0<=i/\i<(n:Int):=⟨X,by omega⟩;refine⟨_,?_,G,rfl⟩;simp[execOp,e,Z,Instr.index,asIntOf,DS,I2,DH,E6 hu,if_pos hb,J,hr]
   .cases A
  .cases q
def NL{y:α}(h:look Γ t=some (.own T'<|Vi f l))(A:IC P T len sz=true)(q:l.length=len)(hi:Arg Γ ix (TI k i))(C:AB l i=some y):B0 P Γ ⟨d,.indexAddr T (.tmp t) ix,ty,pos,af,g⟩ (.ptr t<|i.toNat*sz):=by let⟨G,I,_⟩:=FP C;exact uB h A hi G (by omega)
def anw{y:α}(A:IC P T len sz=true)(C:∀z,(f z).n=sz)(q:l.length=len)(h:Arg Γ x (GH<|Vi f l))(hi:Arg Γ ix (TI k i))(G:AB l i=some y):B0 P Γ ⟨d,.indexAddr T x ix,ty,pos,af,g⟩ (.val<|GH<|f y):=by let⟨I,M,J⟩:=FP G;exact aeZ h rfl A hi I (by omega)<|BM.arr C J
def ajX{ps:A3 (Nat×C9)}{l l':A3 Ty}(h:Cw P Γ ps l l'):EZ l'=EZ l:=by induction h with|nil=>rfl|cons A hi q r ih=>rw[ih,xl hi q]
theorem vY{n:Nat}{ps:A3 (Nat×C9)}{l':A3 Ty}(hz:DF P E τ)(C:FJ P T E sz=true)(A:τ.n=sz)(G:Nat.blt 0 (n*sz)=true)(hn:Nat.ble (n*sz) 16777216=true)(Y:Cw P Γ ps (List.replicate n τ) l')(Z:l'.length=n):B0 P Γ ⟨d,.buildSlice T n ps.toArray,ty,pos,af,g⟩ (.buf E sz l'):=
 Jn λw0 H0 N a w H hs=>by
  let⟨z,R,U⟩:=hz.run w;have aph:=Ac G;unfold FJ at C;split at C
  .rename_i e hu;simp only[Bq] at C;let⟨V,I⟩:=C;have V:=DX V;subst V;split at I
   .rename_i i hi;have I:=DX I;have J:=nK (U H) n;rw[A] at J;have T5:∀i m,(EZ<|List.replicate n τ)[i]? =some m->(λi=>some (i*sz,sz)) i=some (((EZ<|List.replicate n τ).take i).sum,m):=by
     intro i m hi;simp only[EZ,eC,List.getElem?_replicate] at hi;split at hi
     .rename_i hlt;simp at hi;subst hi;simp[EZ,eC,YD,A,Ds<|QF hlt]
     .cases hi
    let⟨q,hf,IP⟩:=Y.fill T5 hs J;have e2:(ps.toArray.map λ(i,x)=>(i,a.eval x)).toList=ps.map λp=>(p.1,a.eval p.2):=by simp
    have Rz:(Go.sizeOf e).run P w= .ok sz w:=by simp[Go.sizeOf,typeInfo,program,Sem.run,hi,I]
    have hle:n*sz<=16777216:=Cs hn;have W:Instr.fill (λi=>some (i*sz,sz)) ((Array.range<|n*sz).map<|λi=>z.cells[i%z.cells.size]!) (ps.toArray.map λ(i,x)=>(i,a.eval x)).toList=some q:=by grind
    have M:Ea w.heap.size w (w.alloc<| .cells q e):=Ea.alloc _;have at0:=KT IP;have X:EZ l'=EZ (List.replicate n τ):=ajX Y;have hcl:C7 l'=n*sz:=by have:C7 l'=(EZ l').sum:=rfl;rw[this,X];simp[EZ,A]
    have O:q.size=n*sz:=by grind
    refine⟨.slice (some ⟨w.heap.size,0,none⟩) n n,w.alloc<| .cells q e,H,?_,Ext.alloc hs.sub _,⟨q.toList,⟨by rw[Z];simpa using O,.inr ⟨w.heap.size,n,q,by rw[Z],EU _,JX w _,by omega,?_,O,?_⟩⟩,IP,?_⟩,?_⟩
    .have h0: ¬n*sz=0:=by omega
     simp only[execOp,Instr.buildSlice,DS,DH,E6 hu,Rz];rw[if_neg (by omega)];simp only[DS,I2,DH,if_neg h0,R];rw[W];simp[newRow]
    .rw[Sv];have:n<=n*sz:=by
      rcases Jb sz with h|h
      .grind
      .exact Nat.le_mul_of_pos_right n h
     omega
    .grind
    .intro b M;simp[Value.ownBlock] at M;subst M;refine⟨?_,.inl hs.below.size⟩;cases hh:H w.heap.size with|none=>rfl|some o=>have:=Ft hs.sub hh;omega
    .intro b M;simp[AT.owns,Value.ownBlock] at M;omega
   .cases I
  .cases C
theorem not_true(h:(!b)=true):b=false:=by cases b<;>simp_all
def C2{y:α}(h:AB l i=some y):l[i.toNat]? =some y:=(FP h).2.2
def Sn{y:α}{n:Nat}(e:l.length=n)(h:AB l i=some y):i<n:=by have:=(FP h).2.1;omega
theorem uc{l:A3 Ty}(h:τ.n=sz)(r:Eu sz l):Eu sz (τ::l):=by simp_all [Ty.n,Eu]
def un:Eu sz []:=λx h=>by cases h
def Sat.aDm(hs:Sat w0 H0 N Γ a w H){s:AT}(h:s.holds w0 a w H (Ad a t))(C:s.free=true):Sat w0 H0 N ((t,s)::BH t Γ) a w H:=by
 refine⟨hs.nd,hs.sz,hs.below,hs.FY,hs.sub,?_,?_,hs.gl⟩
 .intro p A;rcases Ak.1 A with e|A
  .subst e;exact h
  .exact hs.holds p (Cp p A).1
 .intro p A q hq hne b hpb;rcases Ak.1 A with e|A
  .subst e;exact absurd hpb<|AT.free_spec C
  .rcases Ak.1 hq with e|hq
   .subst e;exact AT.free_spec C
   .exact hs.sep p (Cp p A).1 q (Cp q hq).1 hne b hpb
def DZ{s:Nat}(hs:look Γ s=some (.same t))(q:look Γ t=some (.val τ)):GX w0 N Γ ((s,.val τ)::BH s Γ):=λ_ _ _ H h=>by
 have e:=h.holds _<|B8 hs
 have k:=h.holds _<|B8 q
 exact⟨H,h.aDm (by show τ.ok H _;rw[show _=_ from e];exact k) rfl⟩
def abK{G5:Ty}(q:look Γ t=some (.val τ))(hi:∀H v,τ.ok H v->G5.ok H v):GX w0 N Γ ((t,.val G5)::BH t Γ):=λ_ _ _ H h=>⟨H,h.aDm (hi _ _<|h.holds _<|B8 q) rfl⟩
def Fb(h:look Γ t=some (.val<|TN f l)):GX w0 N Γ ((t,.val<|TL f l)::BH t Γ):=abK h qo
def tNL(h:l.isEmpty=false)(q:look Γ t=some (.val<|TL f l)):GX w0 N Γ ((t,.val<|TN f l)::BH t Γ):=abK q<|qp h
def Arg.c(h:v.oneCell'=true):Arg Γ (.const v) (Gt 1 false):=⟨λ_=>Shape.one h⟩
def zTL:(TL f []).ok H (.slice none 0 0):=⟨none,0,rfl,BJ _,λh=>absurd rfl h⟩
def zTN:(TN f []).ok H (.slice none 0 0):=⟨zTL,λ_=>rfl⟩
def Ij{n:Nat}{agg:Bool}(h:(Nat.beq v.cells.size n&&v.cells.toList.all (λc=>c.oneCell'))=true)(e:v=Fc agg v.cells):Shape n agg v:=by simp only[Bq] at h;exact⟨DX h.1,λc q=>DC.1 h.2 c q,e⟩
def DU{α:Type}(i k:Int)(y x:α):α:=bif decide (i=k) then y else x
def F4.TA{a b c y:α}(q:∀z,(f z).n=sz)(h:AB [a,b,c] i=some z):F4 (Cl [f a,f b,f c]) (i.toNat*sz) (f y) (Cl [f<|DU i 0 y a,f<|DU i 1 y b,f<|DU i 2 y c]):=by
 let⟨G,A,C⟩:=FP h;have:=F4.arr (y:=y) q C;simp only[DP,SG] at A;have hi:i=0\/i=1\/i=2:=by omega
 rcases hi with e|e|e<;>(subst e;exact this)
def Sk{t' o n:Nat}(h:look Γ t=some (.ptr t' o))(q:IC P T n sz=true)(hi:Arg Γ ix (TI k i))(A:0<=i)(C:i<n):B0 P Γ ⟨d,.indexAddr T (.tmp t) ix,ty,pos,af,g⟩ (.ptr t'<|o+i.toNat*sz):=Mm h q hi A C
def XM{f:FuncId}(C:FQ P f=true)
 (h:∀(H:HV) (vs:A3 AW),Du H args vs->∃q A,Du H q vs/\Dy P f q (.vs A)/\∀H' v,JE H' A v->JE H' Ct v):Dy P f args (.vs Ct):=
 ⟨C,λw H vs sub gl G=>by let⟨q,A,I,J,M⟩:=h H vs G;exact(J.run w H vs sub gl I).mono λ_ w' ⟨v,e,O,H',k1,R,k3⟩=>⟨v,e,O,H',k1,R,M H' v k3⟩⟩
structure St{α:Type}[DecidableEq α](P:Bz)(T:Ap)(f:α->Ty):Prop where
 run:∀(H:HV) (u v:AW) (x y:α),(f x).ok H u->(f y).ok H v->∀w:AS,(Op.equal T u v).run P w= .ok (decide<|x=y) w
 guard:∀(H:HV) (u v:AW) (x y:α),(f x).ok H u->(f y).ok H v->∀(o:BinOp) (p q:C9) (w:AS),(eqGuard o T p q u v).run P w= .ok () w
 agg:∀x,(f x).agg=true
def NN[DecidableEq α]{m n:α}(h:St P T f)(J:Arg Γ x (f m))(M:Arg Γ y (f n)):B0 P Γ ⟨d,.binOp .eql T x y T',ty,pos,af,g⟩ (.val<|Az<|decide<|m=n):=
 GP J M λH u v q A w _=>by have I:=h.run H u v m n q A w;have O:=h.guard H u v m n q A .eql x y w;refine⟨.bool<|decide<|m=n,?_,rfl⟩;have C:=((f m).shape q).eq;have G:=((f n).shape A).eq;rw[h.agg] at C G;simp only[Fc] at C G;simp only[DS,O,DH];rw[C,G] at I⊢;simp[binOp,I]
def qC[DecidableEq α]{m n:α}(h:St P T f)(J:Arg Γ x (f m))(M:Arg Γ y (f n)):B0 P Γ ⟨d,.binOp .neq T x y T',ty,pos,af,g⟩ (.val<|Az<| !decide (m=n)):=
 GP J M λH u v q A w _=>by have I:=h.run H u v m n q A w;have O:=h.guard H u v m n q A .neq x y w;refine⟨.bool<| !decide (m=n),?_,rfl⟩;have C:=((f m).shape q).eq;have G:=((f n).shape A).eq;rw[h.agg] at C G;simp only[Fc] at C G;simp only[DS,O,DH];rw[C,G] at I⊢;simp[binOp,I]
def AN:A3 Int->Int
 |[]=>0|x::l=>x+18446744073709551616*AN l
def okW(l:A3 Int):Prop:=∀x∈l,0<=x/\x<18446744073709551616
@[reducible] def CR(x:Int×A3 Int):Ty:=Cl [(TI .i64) x.1,(TN<|TI .u64) x.2]
def CQ(r:Int×A3 Int)(z:Int):Prop:=(r.2=[]/\r.1=z/\Cd z)\/(r.2≠[]/\(r.1=1\/r.1= -1)/\okW r.2/\r.2.getLast?≠some 0/\z=r.1*AN r.2/\9223372036854775807<AN r.2)
def De(z:Int):Ty:=TEx 2 true (λr=>CQ r z) CR (λ_=>rfl)<|λ_=>rfl
@[reducible] def Be(q:Rat):Ty:=Cl [De q.num,De q.den]
def WT{k:Nat}(h:look Γ p=some (.IB t j sz))(q:FI P T k off=true):B0 P Γ ⟨d,.fieldAddr T (.tmp p) k,ty,pos,af,g⟩ (.bpf t<|j*sz+off):=
 DA λ_ _ _ a w _ hs=>by
  let⟨b,len,cap,A,C⟩:=hs.holds _<|B8 h
  have G:a.eval (.tmp p)= .pointer (some ⟨b,j*sz,none⟩):=C;exact⟨.pointer<|some ⟨b,j*sz+off,none⟩,by simp[execOp,G,Wn q],⟨b,len,cap,A,rfl⟩,rfl⟩
theorem anB{B:Ah P}{l:A3 Ty}{ρ:Ty}(h:(AT.buf E sz l).holds B a w H v)(C:Eu sz l)(A:l[j]? =some ρ):∃b cap cs,v= .slice (some ⟨b,0,none⟩) l.length cap/\w.heap[b]? =some (.cells cs E (0,0))/\j*sz+sz<=cs.size/\ρ.ok H (Fc ρ.agg ((cs.toList.drop<|j*sz).take ρ.n).toArray):=by
 have G:=(EP.1 A).1;let⟨b,cap,cs,xs,e,M,I,_,O,Z,q,R,_,_⟩:=UT h (λe=>by rw[e] at G;simp at G);let⟨U,J⟩:=L3 R A;have V:=C ρ<|HC A
 have W:C7 (l.take j)=j*sz:=by rw[IQ<|C.take _,Dd,Ds (by omega)]
 rw[W] at U J;have X:l.length*sz<=cs.size:=by grind
 have Y:List.take ρ.n (List.drop (j*sz) cs.toList)=List.take ρ.n (List.drop (j*sz) xs):=by
  rw[<-q,Jy,M5]
  congr 1;omega
 refine⟨b,cap,cs,e,M,by omega,?_⟩;rw[Y];exact J
def aR{y:α}(C:∀z,(f z).n=sz)(R:look Γ p=some (.bpf t<|j*sz+off))(U:look Γ t=some (.buf E sz<|lT f l))(h:l[j]? =some y)(V:(f y).agg=true)(W:BM (f y) off σ)(X:Bj P T σ.n σ.agg=true):B0 P Γ ⟨d,.load T<| .tmp p,ty,pos,af,g⟩ (.val σ):=
 DA λw0 _ _ a w H G=>by
  let⟨b,cap,cs,e,Y,Z,I⟩:=anB (G.holds _<|B8 U) (Hy C l) (j:=j) (ρ:=f y) (by rw[Fp,h];rfl);let⟨b',aav,qh,A,e2⟩:=G.holds _<|B8 R
  simp only at e A;rw[e] at A;cases A;have e3:a.eval (.tmp p)= .pointer (some ⟨b,j*sz+off,none⟩):=e2;rw[V] at I;let⟨J,M⟩:=W _ _ I;simp only[Wc] at J M;have hn:=C y;have q:(List.take (f y).n<|List.drop (j*sz) cs.toList).toArray.size=(f y).n:=by simp;omega
  rw[q] at J;refine⟨_,?_,M,rfl⟩;have O:=PJ (P:=P) X Y (off:=j*sz+off) (by omega);have Su:List.take σ.n (List.drop (j*sz+off) cs.toList)=List.take σ.n (List.drop off<|List.take (f y).n<|List.drop (j*sz) cs.toList):=by
   rw[Jy,M5,Ee]
   congr 1;omega
  rw[Su] at O;simp[execOp,e3,Instr.loadAt,Instr.sureAddr,O]
theorem alP{Al:Ctx}(O:∀q∈Al,q∈Γ){y y':α}(I:∀z,(f z).n=sz)(hp:look Al p=some (.bpf t<|j*sz+off))(ht:look Al t=some (.buf E sz<|lT f l))(h:l[j]? =some y)(hx:Arg Al x σ)(ha:(f y).agg=true)(hs:F4 (f y) off σ (f y'))(hT:Bj P T σ.n σ.agg=true):Step P N ops ⟨none,.store T (.tmp p) x,ty,pos,af,none⟩ Γ ((t,.buf E sz<|lT f<|l.set j y')::BH t Γ):=by
 intro w0 H0 a w H R K Q k;simp[Region.wanted,if_true];have V:(lT f l)[j]? =some (f y):=by grind
 have hu:=Hy I l;have W:=(EP.1 V).1;let⟨b,cap,cs,xs,e,hb,J,X,Y,IE,C,ho,hH,hB⟩:=UT (R.holds _<|O _<|B8 ht) (λe=>by rw[e] at W;simp at W);let⟨b',aav,qh,Z,e2⟩:=R.holds _<|O _<|B8 hp
 simp only at e Z;rw[e] at Z;cases Z;have ep:a.eval (.tmp p)= .pointer (some ⟨b,j*sz+off,none⟩):=e2;have Yf:=hx.ok<|R.weaken O
 have E5:=σ.shape Yf;have A:C7 ((lT f l).take j)=j*sz:=by rw[IQ<|hu.take _,Dd,Ds<|QF W]
 let⟨p1,U⟩:=L3 ho V;rw[A,I y] at p1;rw[A,I y] at U;have aaC:(lT f l).length*sz<=cs.size:=by grind
 generalize Su:List.take sz (List.drop (j*sz) xs)=Mc at U
 have agx:Mc.length=sz:=by grind
 rw[ha] at U;let⟨s1,x',s2,s3⟩:=hs _ _ _ U Yf;simp[Wc,dq,agx] at s1;simp only[Wc] at s3;have LV:=S5 ho V ((I y').trans (I y).symm) s2;rw[A,I y] at LV;have G9:=RB (P:=P) (off:=j*sz+off) (Ry hT) E5.size hb (by omega) E5.cell;unfold Oper.wp;have er:(execOp a.eval ⟨none,.store T (.tmp p) x,ty,pos,af,none⟩).run P w= .ok .skip (w.setRow b (cs.toList.take (j*sz+off)++(a.eval x).cells.toList++cs.toList.drop (j*sz+off+σ.n)).toArray):=by simp[execOp,ep,Instr.storeAt,Instr.sureAddr,G9]
 rw[er,OF]
 generalize aoM:(cs.toList.take (j*sz+off)++(a.eval x).cells.toList++cs.toList.drop (j*sz+off+σ.n)).toArray=I7
 have hg:Dw w (w.setRow b I7) (some b):=Dw.setRow w b _;have M:(a.eval x).cells.toList.length=σ.n:=by rw[En,E5.size]
 have aqp:x'.cells.toList=List.take off Mc++(a.eval x).cells.toList++List.drop (off+σ.n) Mc:=by rw[s3]
 have arE:I7.toList=cs.toList.take (j*sz+off)++(a.eval x).cells.toList++cs.toList.drop (j*sz+off+σ.n):=by rw[<-aoM]
 refine k a _ H (Mk R (O _<|B8 ht) hg hB (by simp[AT.owns,e,Value.ownBlock]) ?_ λc A=> .inl A);have G:(lT f<|l.set j y').length=(lT f l).length:=by simp
 have arD:I7.size=cs.size:=by grind
 refine⟨List.take ((lT f l).length*sz) I7.toList,⟨?_,.inr ⟨b,cap,I7,by rw[G];simpa using e,EU _,S9 w b _ _ _ _ hb,by rw[G];exact J,X,by rw[arD,Y],by rw[G]⟩⟩,?_,?_⟩
 .grind
 .have apm:List.take ((lT f l).length*sz) I7.toList=List.take (j*sz) xs++x'.cells.toList++List.drop (j*sz+sz) xs:=by
   have hy:(a.eval x).cells.toList.length=σ.n:=M;rw[arE,xG hy (by omega) (by rw[En];omega),C,aqp];have t1:List.take (j*sz+off) xs=List.take (j*sz) xs++List.take off Mc:=by grind
   have t2:List.drop (j*sz+off+σ.n) xs=List.drop (off+σ.n) Mc++List.drop (j*sz+sz) xs:=by
    rw[<-Su,Jy,Ee];have:List.drop (j*sz+sz) xs=List.drop (sz-(off+σ.n)) (List.drop (j*sz+(off+σ.n)) xs):=by rw[Ee];congr 1;omega
    rw[this,MK]
    congr 1;omega
   rw[t1,t2];simp[Fz]
  rw[apm];rw[show lT f (l.set j y')=(lT f l).set j (f y') from by simp[lT,SB]];exact LV
 .intro c A;simp[e,Value.ownBlock] at A;subst A;exact⟨hH,hB⟩
def anY{y y':α}(q:∀z,(f z).n=sz)(A:look Γ p=some (.bpf t<|j*sz+off))(C:look Γ t=some (.buf E sz<|lT f l))(h:l[j]? =some y)(G:Arg Γ x σ)(I:(f y).agg=true)(hs:F4 (f y) off σ (f y'))(J:Bj P T σ.n σ.agg=true):Step P N ops ⟨none,.store T (.tmp p) x,ty,pos,af,none⟩ Γ ((t,.buf E sz<|lT f<|l.set j y')::BH t Γ):=alP (λ_ h=>h) q A C h G I hs J
def ajF(h:FJ P T E sz=true)(w:AS):(Instr.buildSlice T 0 #[]).run P w= .ok (.slice (some ⟨w.heap.size,0,none⟩) 0 0) (w.alloc<| .cells #[] E):=by
 unfold FJ at h;split at h
 .rename_i e hu;simp only[Bq] at h;let⟨A,q⟩:=h;have A:=DX A;subst A;split at q
  .rename_i i hi;have q:=DX q;have G:(Go.sizeOf e).run P w= .ok sz w:=by simp[Go.sizeOf,typeInfo,program,Sem.run,hi,q]
   have C:(Array.range 0:B9 Nat)= #[]:=rfl;simp only[Instr.buildSlice,DS,DH,E6 hu,G,dU];rw[if_neg (by omega)];simp[newRow,Instr.fill,C]
  .cases q
 .cases h
def O6(f:α->Ty)(h:FJ P T E sz=true):B0 P Γ ⟨d,.buildSlice T 0 #[],ty,pos,af,g⟩ (.buf E sz<|lT f []):=
 Jn λw0 H0 N a w H hs=>by
  refine⟨.slice (some ⟨w.heap.size,0,none⟩) 0 0,w.alloc<| .cells #[] E,H,by simp only[execOp,DS,Array.map_empty,ajF h];rfl,Ext.alloc hs.sub _,⟨[],⟨by simp,.inr ⟨w.heap.size,0,#[],rfl,EU _,JX w _,BJ _,by rw[Sv];omega,by simp,by simp⟩⟩,rfl,?_⟩,?_⟩
  .intro b hb;simp[Value.ownBlock] at hb;subst hb;refine⟨?_,.inl hs.below.size⟩;cases q:H w.heap.size with|none=>rfl|some o=>have:=Ft hs.sub q;omega
  .intro b hb;simp[AT.owns,Value.ownBlock] at hb;omega
def ai8{T:Nat}{l:A3 Ty}(C:IC P T len sz=true)(W:Eu sz l)(G:l.length=len)(I:Arg Γ x (GH<|Cl l)):B0 P Γ ⟨d,.slice T x none none none,ty,pos,af,g⟩ (.val<|F2 l):=
 DA λw0 _ _ a w H hs=>by
  let⟨b,off,cs,E,fr,e,J,h,M⟩:=I.ok hs;let⟨O,i,q,hi,R⟩:=o7 C;have U:∀w,(Go.sizeOf O).run P w= .ok sz w:=λw=>by simp[Go.sizeOf,typeInfo,program,Sem.run,hi,R]
  refine⟨.slice (some<|if len=0 then⟨b,off,none⟩ else(⟨b,off,none⟩:Addr).add (0*sz)) len len,?_,?_,rfl⟩
  .simp[execOp,e,Instr.sliceAt,E6 q,Instr.sureAddr,Instr.sliceBounds,U]
  .let⟨cs2,e2,ho⟩:=M;have A:cs2=(List.take (Cl l).n<|List.drop off cs.toList).toArray:=by have:(Cl l).agg=true:=rfl;rw[this] at e2;simp only[Fc] at e2;exact(Value.agg.inj e2).symm
   refine⟨_,len,by rw[G],by omega,λV=>⟨b,off,cs,E,fr,?_,J,h,?_⟩⟩
   .simp[addr_add]
   .rw[A] at ho;exact ho
def Flat(τ:Ty):Prop:=∀H H' v,τ.ok H v->τ.ok H' v
def Flat.int:Flat (TI k n):=λ_ _ _ h=>h
def Flat.bool:Flat (Az b):=λ_ _ _ h=>h
inductive Ii(Γ:Ctx):A3 C9->A3 Ty->Prop where
 |nil:Ii Γ [] []|cons {x:C9} {τ:Ty} {xs:A3 C9} {l:A3 Ty} (h:Arg Γ x τ) (r:Ii Γ xs l):Ii Γ (x::xs) (τ::l)|buf {t:Nat} {E:Ap} {sz:Nat} {bl:A3 Ty} {xs:A3 C9} {l:A3 Ty} (h:look Γ t=some (.buf E sz bl)) (r:Ii Γ xs l):Ii Γ (.tmp t::xs) (F2 bl::l)|same {s t:Nat} {E:Ap} {sz:Nat} {bl:A3 Ty} {xs:A3 C9} {l:A3 Ty} (hs:look Γ s=some (.same t)) (h:look Γ t=some (.buf E sz bl)) (r:Ii Γ xs l):Ii Γ (.tmp s::xs) (F2 bl::l)
def full(w:AS):HV:=λr=>w.heap[r]?
def Ii.ok{xs:A3 C9}{l:A3 Ty}(h:Ii Γ xs l){w0:Ah P}{H0:HV}{N:Nat}{a:Act}{w:AS}{H:HV}(hs:Sat w0 H0 N Γ a w H):Du (full w) l (xs.map a.eval):=by
 have q:HV.le H (full w):=hs.sub
 induction h with
 |nil=>rfl|cons h _ ih=>exact⟨_,_,rfl,Ty.mono _ q<|h.ok hs,ih⟩|buf h _ ih=>exact⟨_,_,rfl,Uz (hs.holds _<|B8 h) q<|λb _ _ o A=>A,ih⟩
 | @same s t E sz bl xs l hsm h _ ih=>
  refine⟨_,_,rfl,?_,ih⟩;have e:Ad a s=Ad a t:=hs.holds _<|B8 hsm
  show(F2 bl).ok _ (Ad a s);rw[e];exact Uz (hs.holds _<|B8 h) q<|λb _ _ o A=>A
def xh{H H':HV}:∀{l:A3 Ty} {vs:A3 AW},(∀τ∈l,Flat τ)->Du H l vs->Du H' l vs
 |[],_,_,e=>e|τ::_,_,hf,⟨v,rest,e,hv,hr⟩=>⟨v,rest,e,hf τ (by simp) _ _ _ hv,xh (λx h=>hf x (by simp[h])) hr⟩
def agA{H':HV}{l:A3 Ty}(q:∀τ∈l,Flat τ)(h:JE H l v):JE H' l v:=by match l,h with|[],h=>exact h|[τ],h=>exact q τ (by simp) _ _ _ h|τ::G5::l,⟨vs,e,h⟩=>exact⟨vs,e,xh q h⟩
def wQ{f:FuncId}(A:Dy P f args (.vs Ct))(G:Ii Γ xs args)(q:∀τ∈Ct,Flat τ):B0 P Γ ⟨d,.call ⟨.value<| .func f,xs.toArray,FX⟩,ty,pos,af,g⟩ (Gs Ct):=by
 intro w0 H0 N a w H hs K Q k;unfold Oper.wp;have e:execOp a.eval ⟨d,.call ⟨.value<| .func f,xs.toArray,FX⟩,ty,pos,af,g⟩=callFunc f (#[]++xs.toArray.map a.eval++ #[]):=rfl;rw[e,Ml A.can,Uh];have I:(#[]++xs.toArray.map a.eval++ #[])=(xs.map a.eval).toArray:=by simp
 rw[I];refine(A.run w (full w) _ (λ_ _ h=>h) (hs.gl.mono hs.sub)<|G.ok hs).mono ?_;rintro e w' ⟨v,rfl,C,H',O,R,J⟩;have M:Ext w H w' H:=⟨C,HV.le.refl _,λ_ _=>rfl,λr o h=>by rw[C.block r<|Ft hs.sub h];exact hs.sub r o h⟩;exact k v w' H M (U3<|agA q J)<|λb e=>absurd e<|AT.free_spec UC
def flc{l:A3 Ty}(h:Flat τ)(r:∀x∈l,Flat x):∀x∈τ::l,Flat x:=λx q=>by
 rcases Ak.1 q with e|q
 .rw[e];exact h
 .exact r x q
def fln:∀x∈([]:A3 Ty),Flat x:=λx h=>by cases h
end
section
variable[D:DR]
variable{P:Program}{w0:Ah P}{H0:HV}{N:Nat}{Q:Exit->Act->World->Prop}{Γ Ar:Ctx}
def afl{w0:Ah P}(h:w0.rd=none):Eo w0.rd=Fence.wide:=by rw[h];rfl
def amt{c:Code}(q:w0.rd=none)(h:Goal P w0 H0 N c (Exit.noGoto Q) Γ):Goal P w0 H0 N (.scope c) Q Γ:=λa w H hs=>by have:=h a w H hs;rw[afl q] at this⊢;exact wpIn_wide.2<|wp_scope_straight<|wpIn_wide.1 this
def amv{l:Nat}(k:Df w0 H0 N (Q .normal) Γ):Goal P w0 H0 N (.label l) Q Γ:=λa w H hs=>wpIn_label<|k a w H hs
end
section
variable[D:DR]
variable{P:Program}{N:Nat}{ops:Array Oper}{Γ Ar:Ctx}{d:Option Tmp}{ty:TypeId}{pos:String}{af:Array Edge}{g:Option (Nat×Bool)}
variable{α β:Type}{A:α->A3 Ty}{R:β->A3 Ty}
def IL(P:Bz){α β:Type}(A:α->A3 Ty)(R:β->A3 Ty)(g:α->A9 β):Ty where
 n:=1
 agg:=false
 ok:=λH v=>∃f cap q,v= .func (.func f) #[] cap/\Du H q cap.toList/\∀a r,g a=some r-> @Dy DR.strict P f (A a++q) (.vs<|R r)
 mono:=λh ⟨f,cap,q,e,k,C⟩=>⟨f,cap,q,e,XQ h k,C⟩
 shape:=λ⟨_,_,_,e,_,_⟩=>by subst e;exact Shape.one rfl
def X0{H:HV}:∀{l:A3 Ty} {vs:A3 AW} {l':A3 Ty} {q:A3 AW},Du H l vs->Du H l' q->Du H (l++l') (vs++q)
 |[],_,_,_,e,h=>by subst e;exact h|_::_,_,_,_,⟨v,rest,e,hv,hr⟩,h=>by subst e;exact⟨v,_,rfl,hv,X0 hr h⟩
def XP{fn:α->A9 β}{t:Nat}{xs:A3 C9}{FX:B9 Ap}{x:α}{r:β}(q:look Γ t=some (.val<|IL P A R fn))(h:fn x=some r)(G:AR Γ xs (A x)):B0 P Γ ⟨d,.call ⟨.value<| .tmp t,xs.toArray,FX⟩,ty,pos,af,g⟩ (Gs<|R r):=by
 intro w0 H0 N a w H hs K Q k;let⟨f,cap,Z,e,I,J⟩:=hs.holds _<|B8 q
 have q:=(J x r h).aqH (D:=D);unfold Oper.wp;have M:a.eval (.tmp t)= .func (.func f) #[] cap:=e;have O:execOp a.eval ⟨d,.call ⟨.value<| .tmp t,xs.toArray,FX⟩,ty,pos,af,g⟩=callFunc f (#[]++xs.toArray.map a.eval++cap):=by
  simp[execOp,resolve,M,Deferred.ofValue,pure_bind]
  rfl
 rw[O,Ml q.can,Uh];have U:(#[]++xs.toArray.map a.eval++cap)=(xs.map a.eval++cap.toList).toArray:=by simp
 rw[U];refine(q.run w H _ hs.sub hs.gl<|X0 (G.ok hs) I).mono ?_;rintro e w' ⟨v,rfl,V,H',C,W,X⟩;have Y:Ext w H w' H':=⟨V,λr o h=>by rw[C r<|Ft hs.sub h];exact h,C,W⟩;exact k v w' H' Y (U3 X)<|λb e=>absurd e<|AT.free_spec UC
def kv{fn:α->A9 β}{f:FuncId}{xs:A3 C9}{q:A3 Ty}(C:AR Γ xs q)(h:∀a r,fn a=some r-> @Dy DR.strict P f (A a++q) (.vs<|R r)):B0 P Γ ⟨d,.makeFunc (.func f) #[] xs.toArray,ty,pos,af,g⟩ (.val<|IL P A R fn):=
 DA λ_ _ _ a w H hs=>by refine⟨.func (.func f) #[] (xs.map a.eval).toArray,?_,⟨f,_,q,rfl,by simpa using C.ok hs,h⟩,rfl⟩;simp[execOp,Instr.makeFunc]
def Arg.fn{α β:Type}{A:α->A3 Ty}{R:β->A3 Ty}{fn:α->A9 β}{f:FuncId}(h:∀a r,fn a=some r-> @Dy DR.strict P f (A a) (.vs<|R r)):Arg Γ (.func f) (IL P A R fn):=⟨λ_=>⟨f,#[],[],rfl,rfl,λa r e=>by simpa using h a r e⟩⟩
def ajD{w0:Ah P}{H0:HV}{a:Act}{w w':AS}{H H':HV}{row:A9 Nat}(hs:Sat w0 H0 N Γ a w H)(I:Dw w w' row)(J:∀b,row=some b->w0.Da b/\H b=none/\∀l,w.heap[b]? ≠some (.deferred l))(M:HV.le H H')(q:∀b,b<w.heap.size->row≠some b->H' b=H b)(U:∀b o,H' b=some o->w'.heap[b]? =some o)
  (G:∀p∈Ar,p∈Γ/\∀b,p.2.owns w (Ad a p.1) b->row≠some b):Sat w0 H0 N Ar a w' H':=by
 have DT:∀b,b<w.heap.size->row≠some b->w'.heap[b]? =w.heap[b]? /\H' b=H b:=λb C G=>⟨I.block b C<|λe=>G e.symm,q b C G⟩
 refine UJ (ds:=a.defers) hs (hs.below.JF I<|λk V=>(J k V).1) I.drawn ?_ I.size M U ?_ ?_ ?_
 .intro _ r hr hx;exact q r (I6 hr hs.below.size) (λe=>by
   rcases(J r e).1 with h|h
   .omega
   .exact hx h)
 .intro _ b C Oe;exact DT b C (λe=>by have:=Ah.OB (J b e).1;omega)
 .intro p hp;exact⟨(G p hp).1,λb C=>DT b (AT.H8 (hs.holds p (G p hp).1) C).1<|(G p hp).2 b C⟩
 .exact hs.nd.kept λD _ O W=>by
   have:=DT D (lt_of_heap O)<|λe=>(J D e).2.2 _ O
   exact⟨by rw[this.1];exact O,by rw[this.2];exact W⟩
end
section
variable[D:DR]
def HW{α σ ρ:Type}:A3 α->((σ->A9 ρ)->α->σ->A9 ρ)->σ->(σ->A9 ρ)->A9 ρ
 |[],_,s,K=>K s|x::xs,B,s,K=>B (λs=>HW xs B s K) x s
structure On(M:Nat->Prop)(w:AS)(H:HV)(w':AS)(H':HV):Prop where
 size:w.heap.size<=w'.heap.size
 os:w'.os=w.os
 tape:w'.tape=w.tape
 output:w'.output=w.output
 drawn:Fe w w'
 le:HV.le H H'
 DT:∀b,b<w.heap.size-> ¬M b->w'.heap[b]? =w.heap[b]? /\H' b=H b
 sub:∀r o,H' r=some o->w'.heap[r]? =some o
def YN{α σ ρ:Type}(P:Bz)(l:Nat)(enc:α->A3 Ty)(G:(σ->A9 ρ)->α->σ->A9 ρ)(r:ρ)(J:σ->Inv->Prop)(O:Inv->Prop)(q:Nat):Prop:=
 ∀(next:σ->A9 ρ) (x:α) (s:σ) (I:Inv) (W:AS) (H:HV) (vs:A3 AW),G next x s=some r->J s I->I.n=q->I.p W H->(∀r o,H r=some o->W.heap[r]? =some o)->JD P H->Du H (enc x) vs->YieldAt (Eo none) 0 P l vs.toArray W λe C=>∃H' h,h.n=q/\h.p C H'/\On I.M W H C H'/\(∀b,h.M b->I.M b\/W.heap.size<=b)/\
   ((e= .returned (.bool true)/\∃s',next s'=some r/\J s' h)\/(e= .returned (.bool false)/\O h))
def XZ(P:Bz)(G:FuncId)(O:A3 Ty){α:Type}(enc:α->A3 Ty)(L:A3 α):Prop:=
 FQ P G=true/\∀{σ ρ:Type} (I:(σ->A9 ρ)->α->σ->A9 ρ) (K:σ->A9 ρ) (s0:σ) (r:ρ),HW L I s0 K=some r->∀(l:Nat) (J:σ->Inv->Prop) (M:Inv->Prop) (w:AS) (H:HV) (h:A3 AW) (q:Inv),(∀r o,H r=some o->w.heap[r]? =some o)->JD P H->Du H O h->J s0 q->q.n=w.heap.size->q.p w H->YN P l enc I r J M w.heap.size->Calls P G (.func (.yield l) #[] #[]::h).toArray w λe w'=>(∃v,e= .returned v)/\∃H' C,C.p w' H'/\(∀r o,H' r=some o->w'.heap[r]? =some o)/\((∃s,K s=some r/\J s C)\/M C)
def TE(P:Bz){α:Type}(enc:α->A3 Ty)(o:A9 (A3 α)):Ty where
 n:=1
 agg:=false
 ok:=λH v=>∃q cap C,v= .func (.func q) #[] cap/\Du H C cap.toList/\∀L,o=some L->XZ P q C enc L
 mono:=λh ⟨q,cap,C,e,k,s⟩=>⟨q,cap,C,e,XQ h k,s⟩
 shape:=λ⟨_,_,_,e,_⟩=>by subst e;exact Shape.one rfl
end
section
variable[D:DR]
variable{P:Program}{w0:Ah P}{H0:HV}{N:Nat}{Q:Exit->Act->World->Prop}{Γ Ar:Ctx}
variable{w:AS}{H:HV}{T:A3 Nat}{l:Nat}{rc:Loop}{σ ρ:Type}{r:ρ}{ts:A3 Nat}{a:Act}
def YW(N:Nat)(T:A3 Nat)(Γ:Ctx):Bool:=Γ.all λp=>Nat.blt p.1 N&&T.contains p.1&&p.2.Bv.all (λt=>T.contains t)&& !p.2.E8
theorem Mq{N:Nat}{Γ:Ctx}(h:YW N T Γ=true){p:Nat×AT}(q:p∈Γ):p.1<N/\p.1∈T/\(∀t∈p.2.Bv,t∈T)/\p.2.E8=false:=by(simp_all [YW,AT.Bv,AT.E8]<;>grind)
def pins(N:Nat)(T:A3 Nat)(pv:Nat->AW):Ctx:=T.map λt=>(N+1+t,.IH t<|pv t)
def params:A3 Nat->A3 Ty->Ctx
 |p::ps,τ::τs=>(p,.val τ)::params ps τs|_,_=>[]
def busy(rc:Loop):Loop:={rc with state:= .busy}
def qu(wr:Ah P)(h:HV)(N l:Nat)(rc:Loop)(T:A3 Nat)(pv:Nat->AW){σ ρ:Type}(Al:σ->Ctx)(IF:A9 Ctx)(next:σ->A9 ρ)(r:ρ):Exit->Act->AS->Prop
 | .normal,a,w=>∃s',next s'=some r/\∃H,Sat wr h N ((N,.DN l<|busy rc)::(pins N T pv++Al s')) a w H| .ret,a,w=>∃G,IF=some G/\∃H,Sat wr h N ((N,.DN l<|busy rc)::(pins N T pv++G)) a w H|_,_,_=>False
def aCo(wr:Ah P)(h:HV)(N l:Nat)(rc:Loop)(T:A3 Nat)(pv:Nat->AW){σ ρ:Type}(body:Code)(Al:σ->Ctx)(IF:A9 Ctx)(next:σ->A9 ρ)(r:ρ):Exit->Act->AS->Prop
 | .normal,a,w=>∃Γa H,Sat wr h N ((N,.DN l rc)::Γa) a w H/\BH N Γa=Γa/\Goal P wr h N body (qu wr h N l rc T pv Al IF next r) ((N,.DN l<|busy rc)::Γa)|_,_,_=>False
def qj{wr:Ah P}{C:HV}{pv:Nat->AW}{body:Code}{Al:σ->Ctx}{IF:A9 Ctx}{next:σ->A9 ρ}{q:Ctx}
 (h:Dm Γ ts ((N,.DN l rc)::q))(G:BH N q=q)(g:Goal P wr C N body (qu wr C N l rc T pv Al IF next r) ((N,.DN l<|busy rc)::q)):Df wr C N (aCo wr C N l rc T pv body Al IF next r .normal) Γ:=λ_ _ H hs=>⟨q,H,hs.weaken h.sub,G,g⟩
def fH{wr:Ah P}{q:HV}{pv:Nat->AW}{Al:σ->Ctx}{IF:A9 Ctx}{next:σ->A9 ρ}{s':σ}(C:next s'=some r)
 (h:Dm Γ ts ((N,.DN l<|busy rc)::(pins N T pv++Al s'))):Df wr q N (qu wr q N l rc T pv Al IF next r .normal) Γ:=λ_ _ H hs=>⟨s',C,H,hs.weaken h.sub⟩
def Dw.putObj(w:AS)(l:Nat)(o:Obj):Dw w (w.putObj l o) (some l):=⟨⟨rfl,rfl,rfl,by simp,λj _ h=>YF (λe=>h (by rw[e]))⟩,BJ _⟩
def Xk{k:Nat}{rc':Loop}(hs:Sat w0 H0 N Γ a w H)(h:(k,.DN l rc)∈Γ):Sat w0 H0 N ((k,.DN l rc')::BH k Γ) a (w.putObj l<| .loop rc') H:=by let⟨C,G,q⟩:=hs.holds _ h;exact Mk hs h (Dw.putObj w l _) q rfl ⟨pP<|lt_of_heap C,G,q⟩ λc I=> .inl I
def Sat.anF(hs:Sat w0 H0 N Γ a w H):∀{G:Ctx},(∀p∈G,p.2.free=true/\p.2.holds w0 a w H (Ad a p.1))->Sat w0 H0 N (G++Γ) a w H:=λ{G} h=>by
 refine⟨hs.nd,hs.sz,hs.below,hs.FY,hs.sub,?_,?_,hs.gl⟩
 .intro p C;rcases Bi.1 C with C|C
  .exact(h p C).2
  .exact hs.holds p C
 .intro p C q hq hne b hb DI;rcases Bi.1 C with C|C
  .exact AT.free_spec (h p C).1 hb
  .rcases Bi.1 hq with hq|hq
   .exact AT.free_spec (h q hq).1 DI
   .exact hs.sep p C q hq hne b hb DI
def v7{w:AS}{H:HV}:∀{ps:A3 Nat} {τs:A3 Ty} {vs:A3 AW} {Γ:Ctx} {a:Act},Du H τs vs->ps.length=τs.length->(∀p∈ps,p<N/\Hl p Γ=true)->ps.Nodup->Sat w0 H0 N Γ a w H->∃G,(∀q∈params ps τs++Γ,q∈G)/\Sat w0 H0 N G {tmps:=(ps.zip vs).foldl (λt (p,v)=>t.setIfInBounds p v) a.tmps,defers:=a.defers} w H
 |[],[],vs,Γ,a,ho,_,_,_,hs=>by have:vs=[]:=ho;subst this;exact⟨Γ,λq C=>C,hs⟩
 |[],_::_,_,_,_,_,hl,_,_,_=>by simp at hl|_::_,[],_,_,_,_,hl,_,_,_=>by simp at hl
 |p::ps,τ::τs,_,Γ,a,⟨v,rest,e,hv,hr⟩,hl,hp,hn,hs=>by
  subst e;let⟨I,J⟩:=Ug.1 hn;have M:=O2 hs (hp p (by simp)).1 (hp p (by simp)).2 (s:= .val τ) (v:=v) (by simp[AT.Bv]) hv<|λb h=>h.elim
  let⟨G,O,U⟩:=v7 (ps:=ps) (τs:=τs) (vs:=rest) (Γ:=(p,.val τ)::Γ) hr (by simpa using hl) (λq C=>⟨(hp q (by simp[C])).1,by have:=(hp q (by simp[C])).2;simp only[Hl,M3,Bq] at this⊢;refine⟨⟨?_,by simp[AT.Bv]⟩,this⟩;simp[Jv,ne_eq];exact λe=>I<|e▸C⟩) J M
  refine⟨G,λq C=>O q ?_,U⟩;simp[params,OJ,Ak,Bi] at C⊢;rcases C with h|h|h
  .exact .inr<| .inl h
  .exact .inl h
  .exact .inr<| .inr h
def Marks.tail{B:Ah P}{w:AS}{H:HV}:∀{l m:A3 Deferred},Marks B w H (l++m)->Marks B w H m
 |[],_,h=>h|_::_,_,h=>Marks.tail h.2
def Marks.both{B B':Ah P}{w w':AS}{H H':HV}:∀{l:A3 Deferred},Marks B w H l->Marks B' w' H' l->Marks B w' H' l
 |[],_,_=>trivial
 |_::_,⟨⟨D,e,h1,_,_,h4⟩,hr⟩,⟨⟨D',e',_,g2,g3,_⟩,gr⟩=>by rw[e] at e';cases e';exact⟨⟨D,e,h1,g2,g3,h4⟩,hr.both gr⟩
def iK(w0:Ah P)(H0:HV)(N:Nat)(Γ:Ctx)(a:Act)(V:Nat)(M:Nat->Prop)(X:∀p∈Γ,p.2.E8=false)(Y:w0.n<=V)(Z:∀D,({target:= .collected D,args:= #[]}:Deferred)∈a.defers++w0.ds->D<V):Inv where
 n:=V
 M:=M
 p:=λW H=>Sat w0 H0 N Γ a W H/\∀b,M b↔∃p∈Γ,p.2.owns W (Ad a p.1) b
 lt:=λ⟨C,O⟩ I=>by let⟨p,q,I⟩:=(O _).1 I;exact AT.H8 (C.holds p q) I
 step:=λ{w w' H H'} ⟨C,O⟩ F=>by
  have G:∀p∈Γ,∀b,p.2.owns w (Ad a p.1) b->w'.heap[b]? =w.heap[b]? /\H' b=H b:=λp q b I=>by have J:=(AT.H8 (C.holds p q) I).1;have U:M b:=(O b).2 ⟨p,q,I⟩;exact⟨F.DT b J<| .inr U,F.view b J<| .inr U⟩
  refine⟨UJ (ds:=a.defers) C ?_ F.drawn ?_ F.size F.le F.sub ?_ (λp q=>⟨q,G p q⟩) ?_,λb=>?_⟩
  .exact⟨F.os.trans C.below.os,F.tape.trans C.below.tape,F.output.trans C.below.output,CA C.below.drawn F.drawn,CA C.below.size F.size,λhv k G hx=>(F.DT k (I6 G C.below.size)<| .inl<|I6 G Y).trans<|C.below.block hv k G hx⟩
  .exact λ_ r hr _=>F.view r (I6 hr C.below.size)<| .inl<|I6 hr Y
  .rintro⟨p,q,hi⟩;rw[X p q] at hi;cases hi
  .exact C.nd.kept λD hm J U=>⟨by rw[F.DT D (lt_of_heap J)<| .inl<|Z D hm];exact J,by rw[F.view D (lt_of_heap J)<| .inl<|Z D hm];exact U⟩
  .rw[O b];have key:∀p∈Γ,∀b,p.2.owns w' (Ad a p.1) b↔p.2.owns w (Ad a p.1) b:=λp q b=>by refine(AT.U7 (n:=0) (w':=w') (H':=H') (C.holds p q) (λhi=>by rw[X p q] at hi;cases hi) ?_).2 b;exact⟨F.size,F.os,F.tape,F.output,F.drawn,F.le,λb _ h=>h.elim (λh=>by omega)<|λh=>(G p q b h).1,λb _ h=>h.elim (λh=>by omega)<|λh=>(G p q b h).2,F.sub⟩
   exact⟨λ⟨p,q,h⟩=>⟨p,q,(key p q b).2 h⟩,λ⟨p,q,h⟩=>⟨p,q,(key p q b).1 h⟩⟩
def pd{k:Nat}:∀{Γ:Ctx},(∀p∈Γ,p.1≠k)->BH k Γ=Γ
 |[],_=>rfl
 |p::Γ,h=>by
  have C:Nat.beq p.1 k=false:=by
   cases G:Nat.beq p.1 k
   .rfl
   .exact absurd (DX G) (h p (by simp))
  simp[BH,C,Av];rw[pd λq I=>h q (by simp[I])]
def Sat.defs{ds:A3 Deferred}(hs:Sat w0 H0 N Γ a w H)(h:Marks w0 w H (ds++w0.ds)):Sat w0 H0 N Γ {a with defers:=ds} w H:=UJ (ds:=ds) hs hs.below (BJ _) (λ_ _ _ _=>rfl) (BJ _) (HV.le.refl _) hs.sub (λ_ _ _ _=>⟨rfl,rfl⟩) (λp q=>⟨q,λ_ _=>⟨rfl,rfl⟩⟩) h
def xS{a3 aD:Act}{W V:AS}{Hc H3:HV}{M:Nat->Prop}{G G':Ctx}(O:Sat w0 H0 N G aD W Hc)(hds:w0.ds=[])(hrd:w0.rd=none)
 (hM:∀b,M b->w0.Da b/\Hc b=none)(wr:Ah P)(Y:wr=⟨W,M,some l,false,aD.defers,0,EU _,λ_ _=>EU _⟩)
 (I:Sat wr Hc N ((N,.DN l rc)::(pins N T (λt=>Ad aD t)++G')) a3 V H3)(hT:YW N T G'=true):Sat w0 H0 N ((N,.DN l rc)::G') aD V H3/\On M W Hc V H3/\∀p∈(N,AT.DN l rc)::G',∀b,p.2.owns V (Ad aD p.1) b->M b\/W.heap.size<=b:=by
 have U:wr.n=W.heap.size:=by rw[Y];rfl
 have Z:wr.X=M:=by rw[Y]
 have hwv:wr.Gy=false:=by rw[Y]
 have aqq:wr.ds=aD.defers:=by rw[Y]
 have hww:wr.w=W:=by rw[Y]
 have IH:∀t∈T,Ad a3 t=Ad aD t:=λt ht=>I.holds (N+1+t,.IH t<|Ad aD t)<|Bg _<|Fq _<|B4.2 ⟨t,ht,rfl⟩
 have mem:∀p∈(N,AT.DN l rc)::G',p∈(N,AT.DN l rc)::(pins N T (λt=>Ad aD t)++G'):=λp C=>by
  rcases Ak.1 C with e|C
  .subst e;simp
  .exact Bg _<|QN _ C
 have Da:∀b,wr.Da b->w0.Da b:=λb J=>by
  rcases J with J|J
  .exact .inl<|CA O.below.size<|U▸J
  .exact(hM b<|Z▸J).1
 have hle:HV.le Hc H3:=λr o h=>by have hlt:=Ft O.sub h;rw[I.FY hwv r (by rw[U];exact hlt) (λhx=>by have:=(hM r<|Z▸hx).2;rw[this] at h;cases h)];exact h
 have DT:∀b,b<W.heap.size-> ¬M b->V.heap[b]? =W.heap[b]? /\H3 b=Hc b:=λb J hn=>by have h1:=I.below.block hwv b (by rw[U];exact J) (by rw[Z];exact hn);rw[hww] at h1;exact⟨h1,I.FY hwv b (by rw[U];exact J) (by rw[Z];exact hn)⟩
 have hsz:W.heap.size<=V.heap.size:=by have:=I.below.size;rw[U] at this;exact this
 have hos:V.os=W.os:=by have:=I.below.os;rw[hww] at this;exact this
 have hta:V.tape=W.tape:=by have:=I.below.tape;rw[hww] at this;exact this
 have hou:V.output=W.output:=by have:=I.below.output;rw[hww] at this;exact this
 have hdr:Fe W V:=by have:=I.below.drawn;rw[hww] at this;exact this
 have low:∀k,k<w0.n-> ¬w0.X k-> ¬M k:=λk hk hx hm=>by
  rcases(hM k hm).1 with h|h
  .omega
  .exact hx h
 have qz:∀p∈(N,AT.DN l rc)::G',∀b,p.2.owns V (Ad aD p.1) b↔p.2.owns V (Ad a3 p.1) b:=λp C b=>by
  rcases Ak.1 C with e|C
  .subst e;exact Iff.rfl
  .rw[IH _ (Mq hT C).2.1]
 refine⟨⟨?_,O.sz,?_,?_,I.sub,?_,?_,I.gl⟩,⟨hsz,hos,hta,hou,hdr,hle,DT,I.sub⟩,?_⟩
 .have h1:=I.nd.tail;rw[aqq] at h1;have h2:=O.nd;rw[hds,HB] at h2⊢;exact h2.both h1
 .exact⟨hos.trans O.below.os,hta.trans O.below.tape,hou.trans O.below.output,CA O.below.drawn hdr,CA O.below.size hsz,λhv k hk hx=>(DT k (I6 hk O.below.size)<|low k hk hx).1.trans<|O.below.block hv k hk hx⟩
 .exact λhv r hr hx=>(DT r (I6 hr O.below.size)<|low r hr hx).2.trans<|O.FY hv r hr hx
 .intro p C;have h1:=I.holds p<|mem p C
  have hi:p.2.E8=false:=by
   rcases Ak.1 C with e|C
   .subst e;rfl
   .exact(Mq hT C).2.2.2
  have h2:=AT.Pg (B':=w0) hi h1 λb J=>Da b<|AT.My hi h1 J
  rcases Ak.1 C with e|C
  .subst e;exact h2
  .let⟨_,hk,hl,_⟩:=Mq hT C;rw[<-IH _ hk];exact AT.Mx (λt ht=>(IH t<|hl t ht).symm) h2
 .intro p C q hq hne b J DI;exact I.sep p (mem p C) q (mem q hq) hne b ((qz p C b).1 J)<|(qz q hq b).1 DI
 .intro p C b J;have h1:=I.holds p<|mem p C
  have hi:p.2.E8=false:=by
   rcases Ak.1 C with e|C
   .subst e;rfl
   .exact(Mq hT C).2.2.2
  rcases AT.My hi h1 ((qz p C b).1 J) with h|h
  .exact .inr<|U▸h
  .exact .inl<|Z▸h
def pX{α:Type}{gt:Tmp}{Z:A3 Tmp}{assign body:Code}{enc:α->A3 Ty}{L:A3 α}{o:A9 (A3 α)}(T:A3 Nat)(Al:σ->Ctx)(IF:A9 Ctx)
 {Bd:(σ->A9 ρ)->α->σ->A9 ρ}{K:σ->A9 ρ}{s0:σ}
 (hm:HW L Bd s0 K=some r)(ho:o=some L)(hrd:w0.rd=none)(hds:w0.ds=[])(hg:look Γ gt=some (.val<|TE P enc o))(h0:Dm Γ ts (Al s0))
 (hT:∀s,YW N T (Al s)=true)(hTx:∀G,IF=some G->YW N T G=true)(hps:∀x,(enc x).length=Z.length)(hpN:(Z.all λp=>Nat.blt p N&& !T.contains p)=true)(Ow:Z.Nodup)
 (round:∀(wr:Ah P) (Hr:HV) (l:Nat) (rc:Loop) (pv:Nat->AW) (next:σ->A9 ρ) (x:α) (s:σ),wr.rd=some l->Bd next x s=some r->Goal P wr Hr N assign (aCo wr Hr N l rc T pv body Al IF next r) (params Z (enc x)++((N,.DN l rc)::(pins N T pv++Al s))))
 (kk:∀s,K s=some r->Df w0 H0 N (Q .normal) (Al s))(kx:∀G,IF=some G->Df w0 H0 N (Q .ret) G):Goal P w0 H0 N (.rangeFunc (.tmp gt) Z.toArray assign body) Q Γ:=by
 intro a w H hs;have hinv:∀s,∀p∈Al s,p.2.E8=false:=λs p O=>(Mq (hT s) O).2.2.2
 have aao:∀s,∀p∈Al s,p.1≠N:=λs p O=>Nat.ne_of_lt (Mq (hT s) O).1
 rw[hrd];refine wpIn_rangeFunc ?_;intro fn _;let⟨gf,cap,iq,eg,hcap,fS⟩:=hs.holds _<|B8 hg
 let⟨Yv,apo⟩:=fS L ho;simp only at eg;obtain⟨C,P0⟩:∃C:Loop,C={state:= .ready,pending:=none,fn,tmps:=a.tmps,params:=Z.toArray,assign,body,defers:=w.heap.size}:=⟨_,rfl⟩;obtain⟨Y,hW1⟩:∃Y,(w.alloc<| .deferred<|some []).alloc (.loop C)=Y:=⟨_,rfl⟩;obtain⟨U,haD⟩:∃U:Act,{a with defers:={target:= .collected w.heap.size,args:= #[]}::a.defers}=U:=⟨_,rfl⟩;have at6:Y.heap.size=w.heap.size+2:=by rw[<-hW1];simp
 have hL1:Y.heap[w.heap.size+1]? =some (.loop C):=by rw[<-hW1];have:=World.alloc_heap_new (w.alloc<| .deferred<|some []) (.loop C);rwa [World.size_alloc] at this
 have hK1:Y.heap[w.heap.size]? =some (.deferred<|some []):=by rw[<-hW1];exact(Below.heap_alloc _ _ _ (by simp)).trans<|World.alloc_heap_new w _
 have hHn:∀b,w.heap.size<=b->H b=none:=λb hb=>by cases hh:H b with|none=>rfl|some o=>have:=Ft hs.sub hh;omega
 have he:Ext w H Y H:=by
  have e1:=Ext.alloc hs.sub (w:=w)<| .deferred<|some []
  have e2:=Ext.alloc e1.sub (w:=w.alloc<| .deferred<|some [])<| .loop C
  rw[hW1] at e2;refine⟨⟨?_,CA e1.below.drawn e2.below.drawn⟩,HV.le.refl _,λ_ _=>rfl,e2.sub⟩;have h1:=e1.below.toBelow;have h2:=e2.below.toBelow;exact h1.trans (h2.mono (by simp))
 have hsD:Sat w0 H0 N ((N,.DN (w.heap.size+1) C)::Al s0) U Y H:=by
  have hs1:=ba (hs.weaken h0.sub) he;have hmk:Marks w0 Y H (U.defers++w0.ds):=by
   rw[<-haD];refine⟨⟨w.heap.size,rfl,λ_=>hs.below.size,hK1,hHn _<|BJ _,?_⟩,hs1.nd⟩;intro e he1 he2;have:∀{l:A3 Deferred},Marks w0 w H l->e∈l->False:=by
    intro l
    induction l with
    |nil=>intro _ h;cases h
    |cons x l ih=>
     rintro⟨⟨D,ex,_,g2,_,_⟩,gr⟩ h;rcases Ak.1 h with h|h
     .subst h;rw[ex] at he2;have hD:D=w.heap.size:=by injection he2 with h _;injection h
      subst hD;have:=lt_of_heap g2;omega
     .exact ih gr h
   exact this hs.nd he1
  have KI:Sat w0 H0 N (Al s0) U Y H:=by rw[<-haD] at hmk⊢;exact hs1.defs hmk
  refine⟨KI.nd,KI.sz,KI.below,KI.FY,KI.sub,?_,?_,KI.gl⟩
  .intro p O;rcases Ak.1 O with e|O
   .subst e;exact⟨hL1,hHn _ (by omega),.inl (CA hs.below.size (by omega))⟩
   .exact KI.holds p O
  .have key:∀q∈Al s0,¬q.2.owns Y (Ad U q.1) (w.heap.size+1):=λq V hb=>by
    have DI:q.2.owns Y (Ad a q.1) (w.heap.size+1):=by rw[<-haD] at hb;exact hb
    have:=(AT.H8 ((hs.weaken h0.sub).holds q V)<|(AT.bk he ((hs.weaken h0.sub).holds q V) _).1 DI).1;omega
   intro p O q V hne b hb DI;rcases Ak.1 O with e|O<;>rcases Ak.1 V with e'|V
   .subst e;subst e';exact hne rfl
   .subst e;cases hb;exact key q V DI
   .subst e';cases DI;exact key p O hb
   .exact KI.sep p O q V hne b hb DI
 have hDl:∀D,({target:= .collected D,args:= #[]}:Deferred)∈U.defers++w0.ds->D<Y.heap.size:=by
  intro D hD;have:∀{l:A3 Deferred},Marks w0 Y H l->({target:= .collected D,args:= #[]}:Deferred)∈l->D<Y.heap.size:=by
   intro l
   induction l with
   |nil=>intro _ h;cases h
   |cons x l ih=>
    rintro⟨⟨D',ex,_,g2,_,_⟩,gr⟩ h;rcases Ak.1 h with h|h
    .rw[ex] at h;have hD:D=D':=by injection h with h _;injection h
     subst hD;exact lt_of_heap g2
    .exact ih gr h
  exact this hsD.nd hD
 have hn1:w0.n<=Y.heap.size:=by have:=hs.below.size;omega
 have iP:∀s,∀p∈(N,AT.DN (w.heap.size+1) C)::Al s,p.2.E8=false:=λs p O=>by
  rcases Ak.1 O with e|O
  .subst e;rfl
  .exact hinv s p O
 have Yz:∃X:Loop,X={C with state:= .done,pending:=some .ret}:=⟨_,rfl⟩;let⟨X,Yz⟩:=Yz;have abC:∀G,IF=some G->∀p∈(N,AT.DN (w.heap.size+1) X)::G,p.2.E8=false:=λG hG p O=>by
  rcases Ak.1 O with e|O
  .subst e;rfl
  .exact(Mq (hTx G hG) O).2.2.2
 let J:σ->Inv->Prop:=λs I=>∃M,I=iK w0 H0 N ((N,.DN (w.heap.size+1) C)::Al s) U Y.heap.size M (iP s) hn1 hDl
 let Jx:Inv->Prop:=λI=>∃G,∃hG:IF=some G,∃M,I=iK w0 H0 N ((N,.DN (w.heap.size+1) X)::G) U Y.heap.size M (abC G hG) hn1 hDl
 refine⟨w.heap.size+1,[{target:= .collected w.heap.size,args:= #[]}],Y,{target:= .fn (.func gf) cap,args:= #[.func (.yield<|w.heap.size+1) #[] #[]]},Y,gf,#[.func (.yield<|w.heap.size+1) #[] #[]]++cap,Y,?_,?_,?_,?_,(λe=>by cases e),?_⟩
 .rw[<-hW1,P0];exact run_enterLoop_outer _ _ _ _ _
 .have eg':a.eval (.tmp gt)= .func (.func gf) #[] cap:=eg;simp only[resolve,eg'];simp[go_sem]
 .intro f' _;trivial
 .have:=Ml Yv (#[.func (.yield<|w.heap.size+1) #[] #[]]++cap) Y;simp only[invoke];exact this
 ·
  have ec:(#[.func (.yield<|w.heap.size+1) #[] #[]]++cap:B9 AW)=(.func (.yield<|w.heap.size+1) #[] #[]::cap.toList).toArray:=by apply Array.ext';simp
  rw[ec];refine CallsIn.aag (aaI<|apo Bd K s0 r hm (w.heap.size+1) J Jx Y H cap.toList _ hsD.sub hsD.gl (XQ (HV.le.refl _) hcap) ⟨λb=>∃p∈(N,AT.DN (w.heap.size+1) C)::Al s0,p.2.owns Y (Ad U p.1) b,rfl⟩ rfl ⟨hsD,λb=>Iff.rfl⟩ ?_) ?_
  ·
   rintro next x s I W Hc vs hBd ⟨M,rfl⟩ _ ⟨hS,hM⟩ Li hgl hvs
   have hM':∀b,M b->w0.Da b/\Hc b=none:=λb hb=>by let⟨p,O,hb⟩:=(hM b).1 hb;exact⟨AT.My (iP s p O) (hS.holds p O) hb,(AT.H8 (hS.holds p O) hb).2.1⟩
   let⟨hl1,hl2,hl3⟩:=hS.holds (N,.DN (w.heap.size+1) C) (by simp);have hvl:vs.length=Z.length:=by rw[Q6 hvs,hps x]
   have hy:=run_yield (P:=P) (args:=vs.toArray) hl1 (by rw[P0];simpa using hvl);refine⟨C.fn,_,C.assign,C.body,hy,roundIn_of_wpIn trivial ?_⟩;have ea:C.assign=assign:=by rw[P0]
   have eb:C.body=body:=by rw[P0]
   have et:((C.params.zip vs.toArray).foldl (λtmps (t,a)=>tmps.setIfInBounds t a) C.tmps)=((Z.zip vs).foldl (λt (p,v)=>t.setIfInBounds p v) U.tmps):=by rw[P0,<-haD];simp
   rw[ea,eb,et];obtain⟨wr,hwr⟩:∃wr:Ah P,wr=⟨W,M,some<|w.heap.size+1,false,U.defers,0,EU _,λ_ _=>EU _⟩:=⟨_,rfl⟩;have rF:wr.rd=some (w.heap.size+1):=by rw[hwr]
   have hr0:Sat wr Hc N ((N,.DN (w.heap.size+1) C)::Al s) {U with defers:=[]} W Hc:=by
    refine⟨?_,hS.sz,?_,λ_ _ _ _=>rfl,hS.sub,?_,hS.sep,hS.gl⟩
    .rw[hwr];show Marks _ W Hc ([]++U.defers);have h2:=hS.nd;rw[hds,HB] at h2;have:∀{l:A3 Deferred},Marks w0 W Hc l->Marks (⟨W,M,some<|w.heap.size+1,false,U.defers,0,EU _,λ_ _=>EU _⟩:Ah P) W Hc l:=by
      intro l
      induction l with|nil=>exact λ_=>trivial|cons x l ih=>exact λ⟨⟨D,e,_,g2,g3,g4⟩,gr⟩=>⟨⟨D,e,(λh=>by cases h),g2,g3,g4⟩,ih gr⟩
     exact this h2
    .rw[hwr];exact⟨rfl,rfl,rfl,BJ _,BJ _,λ_ _ _ _=>rfl⟩
    .intro p O;refine AT.Mx (a:=U) (λ_ _=>rfl)<|AT.Pg (iP s p O) (hS.holds p O) λb hb=>?_
     rw[hwr];exact .inr<|(hM b).2 ⟨p,O,hb⟩
   have hr1:Sat wr Hc N (pins N T (λt=>Ad U t)++((N,.DN (w.heap.size+1) C)::Al s)) {U with defers:=[]} W Hc:=by
    refine hr0.anF λp O=>?_
    obtain⟨t,ht,rfl⟩:=B4.1 O;exact⟨rfl,rfl⟩
   let⟨G,hG,YO⟩:=v7 (ps:=Z) (τs:=enc x) (vs:=vs) hvs (hps x).symm (λp O=>by
    have h1:=DC.1 hpN p O;simp only[Bq,F6] at h1;have hpT:p∉T:=λh=>by have:=SS.2 h;rw[h1.2] at this;cases this
    refine⟨Ac h1.1,DC.2 λq V=>?_⟩;have hlt:=Ac h1.1;simp only[Bq,Jv,ne_eq,F6];rcases Bi.1 V with V|V
    .obtain⟨t,ht,rfl⟩:=B4.1 V;refine⟨by simp only;omega,?_⟩;simp only[AT.Bv,List.contains_cons,List.contains_nil,Y2,eE,ne_eq];exact λe=>hpT<|e▸ht
    .rcases Ak.1 V with e|V
     .subst e;exact⟨by simp only;omega,rfl⟩
     .let⟨_,k2,k3,_⟩:=Mq (hT s) V;refine⟨λe=>hpT<|e▸k2,?_⟩;cases hc:q.2.Bv.contains p
      .rfl
      .exact absurd (k3 p<|SS.1 hc) hpT) Ow hr1
   have hr3:Sat wr Hc N (params Z (enc x)++((N,.DN (w.heap.size+1) C)::(pins N T (λt=>Ad U t)++Al s))) _ W Hc:=YO.weaken λq V=>hG q (by
    simp only[Bi,Ak] at V⊢;rcases V with h|h|h|h
    .exact .inl h
    .exact .inr<| .inr<| .inl h
    .exact .inr<| .inl h
    .exact .inr<| .inr<| .inr h)
   have abI:=round wr Hc (w.heap.size+1) C (λt=>Ad U t) next x s rF hBd _ W Hc hr3
   rw[rF] at abI;refine UZ (F:=Eo<|some<|w.heap.size+1) abI ?_;rintro e a1 W2 V;cases e with
   |normal=>
    let⟨Γa,H2,hS2,hdk,hgo⟩:=V;have hb0:=hS2.holds (N,.DN (w.heap.size+1) C) (by simp);refine⟨_,run_beginRound hb0.1 (by rw[P0]),?_⟩;have abJ:=Xk (l:=w.heap.size+1) (rc:=C) (rc':=busy C) hS2 (k:=N) (by simp);have edk:BH N ((N,AT.DN (w.heap.size+1) C)::Γa)=Γa:=by
     have:Nat.beq N N=true:=by simp
     simp only[BH,this,BF];exact hdk
    rw[edk] at abJ;have aap:=hgo a1 _ H2 abJ;rw[rF] at aap;refine UZ (F:=Eo<|some<|w.heap.size+1) aap ?_;rintro e a3 W3 hq3;cases e with
    |normal=>
     let⟨s',Ge,H3,hS3⟩:=hq3;have hb3:=hS3.holds (N,.DN (w.heap.size+1)<|busy C) (by simp);have VO:=Xk (l:=w.heap.size+1) (rc:=busy C) (rc':=C) hS3 (k:=N) (by simp);have rG:BH N ((N,AT.DN (w.heap.size+1)<|busy C)::(pins N T (λt=>Ad U t)++Al s'))=pins N T (λt=>Ad U t)++Al s':=by
      have:Nat.beq N N=true:=by simp
      simp only[BH,this,BF];refine pd λp O=>?_
      rcases Bi.1 O with O|O
      .obtain⟨t,_,rfl⟩:=B4.1 O;simp only;omega
      .exact aao s' p O
     rw[rG] at VO;let⟨hB1,hB2,hB3⟩:=xS hS hds hrd hM' wr hwr VO<|hT s'
     have erc:({busy C with state:=if(none:A9 Code).isNone then .ready else .done,pending:=none}:Loop)=C:=by rw[P0];rfl
     refine⟨_,_,run_endRound none hb3.1,H3,iK w0 H0 N ((N,.DN (w.heap.size+1) C)::Al s') U Y.heap.size (λb=>∃p∈(N,AT.DN (w.heap.size+1) C)::Al s',p.2.owns (W3.putObj (w.heap.size+1)<| .loop C) (Ad U p.1) b) (iP s') hn1 hDl,rfl,?_,?_,?_,.inl ⟨rfl,s',Ge,_,rfl⟩⟩
     .rw[erc];exact⟨hB1,λb=>Iff.rfl⟩
     .rw[erc];exact hB2
     .rintro b ⟨p,O,hb⟩;exact hB3 p O b hb
    |ret=>
     let⟨G,hG,H3,hS3⟩:=hq3;have hb3:=hS3.holds (N,.DN (w.heap.size+1)<|busy C) (by simp);have VO:=Xk (l:=w.heap.size+1) (rc:=busy C) (rc':=X) hS3 (k:=N) (by simp);have rG:BH N ((N,AT.DN (w.heap.size+1)<|busy C)::(pins N T (λt=>Ad U t)++G))=pins N T (λt=>Ad U t)++G:=by
      have:Nat.beq N N=true:=by simp
      simp only[BH,this,BF];refine pd λp O=>?_
      rcases Bi.1 O with O|O
      .obtain⟨t,_,rfl⟩:=B4.1 O;simp only;omega
      .exact Nat.ne_of_lt (Mq (hTx G hG) O).1
     rw[rG] at VO;let⟨hB1,hB2,hB3⟩:=xS hS hds hrd hM' wr hwr VO<|hTx G hG
     have erc:({busy C with state:=if(some Code.ret:A9 Code).isNone then .ready else .done,pending:=some .ret}:Loop)=X:=by rw[Yz];rfl
     refine⟨_,_,run_endRound (some .ret) hb3.1,H3,iK w0 H0 N ((N,.DN (w.heap.size+1) X)::G) U Y.heap.size (λb=>∃p∈(N,AT.DN (w.heap.size+1) X)::G,p.2.owns (W3.putObj (w.heap.size+1)<| .loop X) (Ad U p.1) b) (abC G hG) hn1 hDl,rfl,?_,?_,?_,.inr ⟨rfl,G,hG,_,rfl⟩⟩
     .rw[erc];exact⟨hB1,λb=>Iff.rfl⟩
     .rw[erc];exact hB2
     .rintro b ⟨p,O,hb⟩;exact hB3 p O b hb
    |exit id=>exact hq3.elim|goto t=>exact hq3.elim|panic ch=>exact hq3.elim|outgrown=>exact hq3.elim
   |ret=>exact V.elim|exit id=>exact V.elim|goto t=>exact V.elim|panic ch=>exact V.elim|outgrown=>exact V.elim
  ·
   rintro e w3 ⟨⟨v,rfl⟩,H',I',O,asx,(⟨s,hK,M,rfl⟩|⟨G,hG,M,rfl⟩)⟩
   .let⟨hS,_⟩:=O;let⟨hl1,_,_⟩:=hS.holds (N,.DN (w.heap.size+1) C) (by simp);have hel:=run_endLoop (P:=P) hl1 (by rw[P0];simp);have epe:C.pending=none:=by rw[P0]
    rw[epe] at hel;refine⟨none,_,hel,?_⟩;have h5:=Xk (l:=w.heap.size+1) (rc:=C) (rc':={C with state:= .exhausted,pending:=none}) hS (k:=N) (by simp);have h6:Sat w0 H0 N (Al s) U (w3.putObj (w.heap.size+1)<| .loop {C with state:= .exhausted,pending:=none}) H':=h5.weaken λq V=>by
     refine Bg _<|N0 ?_<|aao s q V
     exact Bg _ V
    have:=kk s hK U _ H' h6;rw[<-haD] at this;exact this
   .let⟨hS,_⟩:=O;let⟨hl1,_,_⟩:=hS.holds (N,.DN (w.heap.size+1) X) (by simp);have hel:=run_endLoop (P:=P) hl1 (by rw[Yz];simp);have epe:X.pending=some .ret:=by rw[Yz]
    rw[epe] at hel;refine⟨some .ret,_,hel,?_⟩;refine wpIn_ret ?_;have h5:=Xk (l:=w.heap.size+1) (rc:=X) (rc':={X with state:= .exhausted,pending:=some .ret}) hS (k:=N) (by simp);have h6:Sat w0 H0 N G U (w3.putObj (w.heap.size+1)<| .loop {X with state:= .exhausted,pending:=some .ret}) H':=h5.weaken λq V=>by
     refine Bg _<|N0 ?_<|Nat.ne_of_lt (Mq (hTx G hG) V).1
     exact Bg _ V
    have:=kx G hG U _ H' h6;rw[<-haD] at this;exact this
end
section
variable[D:DR]
def Ah.iter(P:Bz)(w:AS):Ah P:=⟨w,IJ,none,true,[],w.heap.size,BJ _,λ_ h=>h.elim⟩
end
section
variable[D:DR]
variable{P:Program}{w0:Ah P}{H0:HV}{N:Nat}{Q:Exit->Act->World->Prop}{Γ Ar:Ctx}
variable{σ ρ:Type}{r:ρ}{J:σ->Inv->Prop}{I:Inv}{Jx:Inv->Prop}{α:Type}{enc:α->A3 Ty}{ts:A3 Nat}{fn:Func}{s:σ}{ops:B9 Oper}{xs:A3 C9}{ty:Ap}{pos:String}{af:B9 Edge}{K:σ->A9 ρ}{a:Act}{w:AS}{H:HV}{Bd:(σ->A9 ρ)->α->σ->A9 ρ}{l:Nat}{next:σ->A9 ρ}{x:α}{t dy dn:Nat}{FX:B9 Ap}{Qm tb:Ap}{pos':String}{Qo:B9 Edge}{HM:Ctx}
def iW{σ ρ:Type}(K:σ->A9 ρ)(r:ρ)(J:σ->Inv->Prop)(Jx:Inv->Prop)(e:Ending)(w':AS):Prop:=(∃v,e= .returned v)/\∃H' h,h.p w' H'/\(∀r o,H' r=some o->w'.heap[r]? =some o)/\((∃s,K s=some r/\J s h)\/Jx h)
def qx(P:Bz)(fn:Func)(R:Ending->AS->Prop):Exit->Act->AS->Prop:=bodyPostM (Eo none) 0 P fn R
def Qa(l:Nat):Ty:=TEq (.func (.yield l) #[] #[]) rfl
def wV(h:(w0.ds,w0.rd)=([],none))(q:fn.results= #[])(C:look Γ N=some (.inv I))(G:(∃s,K s=some r/\J s I)\/Jx I)
 (hs:Sat w0 H0 N Γ a w H):LeavesInM (Eo none) 0 P fn a.tmps (iW K r J Jx) a.defers .returning w:=by
 refine Tv (congrArg (λp=>p.1) h) (congrArg (λp=>p.2) h) (a:=a) (ds:=a.defers) hs λw H hs=>?_
 refine⟨.tuple #[],?_,⟨_,rfl⟩,H,I,(hs.holds _<|B8 C).1,hs.sub,G⟩;rw[Wz (rs:=[]) (by rw[q])];simp
def aaL(h:(w0.ds,w0.rd)=([],none))(q:fn.results= #[])(C:look Γ N=some (.inv I))(G:K s=some r)(M:J s I):Df w0 H0 N (λa w=>qx P fn (iW K r J Jx) .normal a w) Γ:=λ_ _ _ hs=>wV h q C (.inl ⟨s,G,M⟩) hs
def aBP(h:(w0.ds,w0.rd)=([],none))(q:fn.results= #[])(C:look Γ N=some (.inv I))(G:Jx I):Df w0 H0 N (λa w=>qx P fn (iW K r J Jx) .ret a w) Γ:=λ_ _ _ hs=>wV h q C (.inr G) hs
theorem vL{V:FuncId}{c:Code}{G:A3 Ty}{L:A3 α}{N:Nat}(hf:P.funcs[V]? =some fn)(O:fn.body=some c)(hN:fn.ntmps=N)(hn:G.length+1<=N)(hc:FQ P V=true)
 (h:∀{σ ρ:Type} (Bd:(σ->A9 ρ)->α->σ->A9 ρ) (K:σ->A9 ρ) (s0:σ) (r:ρ),HW L Bd s0 K=some r->∀(l:Nat) (J:σ->Inv->Prop) (Jx:Inv->Prop) (w:AS) (H:HV) (M:Inv),J s0 M->M.n=w.heap.size->YN P l enc Bd r J Jx w.heap.size->Goal P (Ah.iter P w) H N c (qx P fn<|iW K r J Jx) ((N,.inv M)::G3 0 (Qa l::G))):XZ P V G enc L:=by
 subst hN;refine⟨hc,λBd K s0 r hm l J Jx w H W M sub gl IP hJ Z X hy=>?_⟩;have Y:Du H (Qa l::G) (.func (.yield l) #[] #[]::W):=⟨_,_,rfl,rfl,IP⟩;have U:=wh (P:=P) (n:=fn.ntmps) sub gl Y (by simpa using hn);refine(callsIn_wide (n:=0)).1<|callsIn_of_wp_marks (F:=Fence.wide) hf O trivial<|h Bd K s0 r hm l J Jx w H M hJ Z hy _ w H ?_
 have Se:∀p∈G3 0 (Qa l::G),p.2.E8=false/\∀v b,¬p.2.owns w v b:=by
  have:∀(l:A3 Ty) (i:Nat),∀p∈G3 i l,p.2.E8=false:=by
   intro l
   induction l with
   |nil=>intro i p C;simp[G3] at C
   |cons τ l ih=>
    intro i p C;simp[G3,Ak] at C;rcases C with e|C
    .subst e;rfl
    .exact ih _ p C
  exact λp C=>⟨this _ _ p C,λv b=>mD p C⟩
 refine⟨trivial,U.sz,⟨rfl,rfl,rfl,BJ _,BJ _,λ_ _ _ _=>rfl⟩,λ_ _ _ _=>rfl,U.sub,?_,?_,U.gl⟩
 .intro p C;rcases Ak.1 C with e|C
  .subst e;exact⟨X,Z⟩
  .exact AT.Pg (Se p C).1 (U.holds p C) λb O=>absurd O<|(Se p C).2 _ b
 .intro p C q hq hne b O DI;rcases Ak.1 C with e|C
  .grind
  .grind
theorem ahd{w':AS}{H':HV}{k:Nat}{U:Inv}(hv:w0.Gy=true)(Oe:w0.lo=w0.n)(hs:Sat w0 H0 N Γ a w H)(hk:(k,.inv I)∈Γ)(Se:∀q∈BH k Γ,q.2.E8=false)
 (G:On I.M w H w' H')(hI:U.n=w0.n)(hp:U.p w' H')(hM:∀b,U.M b->I.M b\/w.heap.size<=b):Sat w0 H0 N ((k,.inv U)::BH k Γ) a w' H':=by
 have X:=hs.holds _ hk;have other:∀q∈BH k Γ,∀b,q.2.owns w (Ad a q.1) b-> ¬I.M b:=λq C b O V=>hs.sep q (Cp q C).1 _ hk (Cp q C).2 b O V
 have far:∀q∈BH k Γ,∀b,q.2.owns w (Ad a q.1) b->w'.heap[b]? =w.heap[b]? /\H' b=H b:=λq C b O=>G.DT b (AT.H8 (hs.holds q (Cp q C).1) O).1 (other q C b O)
 have key:∀q∈BH k Γ,q.2.holds w0 a w' H' (Ad a q.1)/\∀b,q.2.owns w' (Ad a q.1) b↔q.2.owns w (Ad a q.1) b:=λq C=>by refine AT.U7 (n:=0) (hs.holds q (Cp q C).1) (λhi=>by rw[Se q C] at hi;cases hi) ?_;exact⟨G.size,G.os,G.tape,G.output,G.drawn,G.le,λb _ h=>h.elim (λh=>by omega)<|λh=>(far q C b h).1,λb _ h=>h.elim (λh=>by omega)<|λh=>(far q C b h).2,G.sub⟩
 refine⟨?_,hs.sz,?_,λh=>by(rw[hv] at h;cases h),G.sub,?_,?_,hs.gl.mono G.le⟩
 .refine hs.nd.kept λD _ Y h2=>?_
  have hn: ¬I.M D:=λV=>by let⟨_,_,o,ho,Yi⟩:=I.lt X.1 V;rw[Y] at ho;cases ho;exact Yi
  have:=G.DT D (lt_of_heap Y) hn;exact⟨by rw[this.1];exact Y,by rw[this.2];exact h2⟩
 .exact⟨G.os.trans hs.below.os,G.tape.trans hs.below.tape,G.output.trans hs.below.output,CA hs.below.drawn G.drawn,CA hs.below.size G.size,λh=>by rw[hv] at h;cases h⟩
 .intro q C;rcases Ak.1 C with e|C
  .subst e;exact⟨hp,by rw[Oe];exact hI⟩
  .grind
 .have low:∀q∈BH k Γ,∀b,q.2.owns w' (Ad a q.1) b-> ¬U.M b:=λq C b O V=>by
   have O:=((key q C).2 b).1 O;rcases hM b V with h|h
   .grind
   .have:=(AT.H8 (hs.holds q (Cp q C).1) O).1;omega
  intro q C r W Z b O DI;rcases Ak.1 C with e|C<;>rcases Ak.1 W with e'|W
  .grind
  .subst e;exact low r W b DI O
  .subst e';exact low q C b O DI
  .exact hs.sep q (Cp q C).1 r (Cp r W).1 Z b (((key q C).2 b).1 O)<|((key r W).2 b).1 DI
def HK.anZ{l:A3 Oper}(h:HK P w0 N ops l Γ Ar):Hn l=true->∀(l2:A3 Oper) (H0:HV) (a:Act) (w:AS) (H:HV),Sat w0 H0 N Γ a w H->∀(Q:Exit->Act->AS->Prop),(∀q w' H',Sat w0 H0 N Ar q w' H'->wpListIn (Eo w0.rd) 0 P ops Q l2 q w')->wpListIn (Eo w0.rd) 0 P ops Q (l++l2) a w:=by
 induction h with
 |done=>exact λ_ _ _ _ _ H hs _ k=>k _ _ H hs|fin h=>exact λ_ _ _ _ _ H hs _ k=>k _ _ H<|hs.weaken h.sub
 | @cons _ _ _ o l h _ ih=>
  intro C l2 H0 a w H hs Q k;have G:=h w0 H0 a w H hs (wpListIn (Eo w0.rd) 0 P ops Q<|l++l2) Q λq w' H' M=>ih (vG C) l2 H0 q w' H' M Q k
  show wpListIn _ _ _ _ _ (o::(l++l2)) a w;unfold wpListIn;split
  .rename_i hw;rw[if_pos hw] at G;exact Xo (lU C (by simp)) G
  .rename_i hw;rw[if_neg hw] at G;exact⟨λ_ _=>trivial,G⟩
 |ghost h _ ih=>intro C l2 H0 a w H hs Q k;let⟨H',M⟩:=h H0 a w H hs;exact ih C l2 H0 a w H' M Q k
def yOk(N dy dn:Nat)(Γ:Ctx):Bool:=Γ.all λp=>p.1 !=N&&p.1 !=dy&&p.1 !=dn&&p.2.Bv.all (λt=>t !=dy&&t !=dn)&& !p.2.E8
theorem uw
 {Q:Exit->Act->AS->Prop}
 (hv:(w0.Gy,w0.rd,w0.X)=(true,none,IJ))(Oe:w0.lo=w0.n)(hy:YN P l enc Bd r J Jx w0.n)
 (Z:Bd next x s=some r)(hJ:J s I)(ht:look Γ t=some (.val<|Qa l))(ha:AR Γ xs (enc x))(hI:look Γ N=some (.inv I))(MP:Dm Γ ts HM)(Y:yOk N dy dn HM=true)(hdy:dy<N)(hdn:dn<N)
 (kt:∀s' G,next s'=some r->J s' G->Df w0 H0 N (Q .normal) ((dn,.val<|Az false)::(N,.inv G)::HM))(kf:∀G,Jx G->Df w0 H0 N (Q .normal) ((dn,.val<|Az true)::(N,.inv G)::HM))
 (hs:Sat w0 H0 N Γ a w H):wpListIn (Eo w0.rd) 0 P ops Q [⟨some dy,.call ⟨.value<| .tmp t,xs.toArray,FX⟩,ty,pos,af,none⟩,⟨some dn,.unOp .not tb<| .tmp dy,Qm,pos',Qo,none⟩] a w:=by
 obtain⟨hv1,U,hv3⟩:w0.Gy=true/\w0.rd=none/\w0.X=IJ:=by grind
 have e1:a.eval (.tmp t)= .func (.yield l) #[] #[]:=hs.holds _<|B8 ht
 have V:=hs.holds _<|B8 hI
 have hIn:I.n=w0.n:=by rw[<-Oe];exact V.2
 let⟨fn,tmps,assign,body,G9,aoK⟩:=hy next x s I w H (xs.map a.eval) Z hJ hIn V.1 hs.sub hs.gl<|ha.ok hs
 unfold wpListIn;have hw:Region.wanted (⟨some dy,.call ⟨.value<| .tmp t,xs.toArray,FX⟩,ty,pos,af,none⟩:Oper) (yielded ops a.tmps)=true:=rfl;rw[if_pos hw];refine⟨λ_ _=>trivial,?_⟩;rw[Oper.semAt_eq _ _ _ (by intro c e;cases e)];have e0:execOp a.eval ⟨some dy,.call ⟨.value<| .tmp t,xs.toArray,FX⟩,ty,pos,af,none⟩=Instr.yield l (#[]++xs.toArray.map a.eval++ #[]):=by
  simp[execOp,resolve,e1,Deferred.ofValue,pure_bind]
  rfl
 have e2:(#[]++xs.toArray.map a.eval++ #[])=(xs.map a.eval).toArray:=by simp
 rw[e0,e2,G9];refine⟨(λe=>by cases e),?_⟩;rw[U];refine RoundIn.mono aoK ?_;rintro e w' ⟨H',G,arV,arU,apf,hM,apt⟩;have atF:∀q∈HM,q∈BH N Γ:=λq C=>by have M:=DC.1 Y q C;simp[Bq,Jv,ne_eq] at M;exact N0 (MP.sub q C) M.1.1.1.1
 have W:∀q∈BH N ((N,.inv I)::HM),q.2.E8=false:=λq C=>by
  have hq':=Cp q C;rcases Ak.1 hq'.1 with e|h
  .grind
  .have M:=DC.1 Y q h;simp[Bq,F6] at M;exact M.2
 have hs1:Sat w0 H0 N ((N,.inv I)::HM) a w H:=hs.weaken λq C=>by
  rcases Ak.1 C with e|h
  .subst e;exact B8 hI
  .exact MP.sub q h
 have KI:=ahd hv1 Oe hs1 (k:=N) (by simp) W apf arV arU hM;have O:∀d,(d=dy\/d=dn)->Hl d ((N,.inv G)::HM)=true:=by
  intro d hd;simp only[Hl,M3,Bq,DC,Jv,ne_eq];refine⟨⟨by rcases hd with h|h<;>subst h<;>omega,by simp[AT.Bv]⟩,λq C=>?_⟩;have M:=DC.1 Y q C;simp[Bq,Jv,ne_eq,DC] at M;let⟨⟨⟨⟨h2,h3⟩,h4⟩,h5⟩,h6⟩:=M;refine⟨by rcases hd with h|h<;>subst h<;>assumption,?_⟩;simp[F6,pO,Gm];intro Z;have:=h5 d Z;rcases hd with h|h<;>subst h
  .exact this.1 rfl
  .exact this.2 rfl
 have hs3:Sat w0 H0 N ((N,.inv G)::HM) a w' H':=KI.weaken λq C=>by
  rcases Ak.1 C with e|h
  .subst e;simp
  .refine Bg _ (N0 (Bg _ h) ?_);have M:=DC.1 Y q h;simp[Bq,Jv,ne_eq] at M;exact M.1.1.1.1
 have fin:∀b:Bool,e= .returned (.bool b)->Df w0 H0 N (Q .normal) ((dn,.val<|Az !b)::(N,.inv G)::HM)->(match e with
   | .returned v=>wpListIn (Eo none) 0 P ops Q [⟨some dn,.unOp .not tb<| .tmp dy,Qm,pos',Qo,none⟩] (a.put (some dy) v) w'| .panicked chain=>Q (.panic chain) a w'
   | .outgrown=>LetsOut Q):=by
  intro b eb kk;subst eb;have hs4:=O2 hs3 hdy (O dy<| .inl rfl) (s:= .val<|Az b) (v:= .bool b) (by simp[AT.Bv]) rfl<|λc h=>h.elim
  have Qs:HK P w0 N ops [⟨some dn,.unOp .not tb<| .tmp dy,Qm,pos',Qo,none⟩] ((dy,.val<|Az b)::(N,.inv G)::HM) ((dn,.val<|Az !b)::del dn ((dy,.val<|Az b)::(N,.inv G)::HM)):=HK.cons (Step.over (D7 (Arg.t (t:=dy) (by simp[look]))) rfl rfl hdn rfl) HK.done
  have:=Qs.sound rfl H0 _ w' H' hs4 Q (λa' w' H' MB=>kk a' w' H' (MB.weaken λq C=>by
   rcases Ak.1 C with e|h
   .subst e;simp
   .refine Bg _ (Q8 (Bg _ h) ?_ ?_)
    .exact(Wt (O dn<| .inr rfl) q h).1
    .exact(Wt (O dn<| .inr rfl) q h).2))
  rw[U] at this;exact this
 rcases apt with⟨rfl,s',Ge,hJ'⟩|⟨rfl,hJ'⟩
 .grind
 .grind
def ams
 {l1:A3 Oper}{id:Nat}{Gw:Ctx}
 (O:(w0.Gy,w0.rd,w0.X)=(true,none,IJ))(U:w0.lo=w0.n)(V:YN P l enc Bd r J Jx w0.n)
 (W:Bd next x s=some r)(Y:J s I)(q:ops=List.toArray (l1++([⟨some dy,.call ⟨.value<| .tmp t,xs.toArray,FX⟩,ty,pos,af,none⟩,⟨some dn,.unOp .not tb<| .tmp dy,Qm,pos',Qo,none⟩]:A3 Oper)))(C:Hn l1=true)(Z:HK P w0 N ops l1 Γ Gw)
 (ht:look Gw t=some (.val<|Qa l))(ha:AR Gw xs (enc x))(hI:look Gw N=some (.inv I))(MP:Dm Gw ts HM)(IP:yOk N dy dn HM=true)(G:dy<N)(M:dn<N)
 (kt:∀s' h,next s'=some r->J s' h->Df w0 H0 N (Q .normal) ((dn,.val<|Az false)::(N,.inv h)::HM))(kf:∀h,Jx h->Df w0 H0 N (Q .normal) ((dn,.val<|Az true)::(N,.inv h)::HM)):Goal P w0 H0 N (.region id ops false) Q Γ:=by
 subst q;exact λa w H hs=>wpIn_region_lit<|Z.anZ C _ H0 a w H hs Q λa' w' H' MB=>uw O U V W Y ht ha hI MP IP G M kt kf MB
def ak4
 {id k:Nat}{Gw:Ctx}{C:A3 Nat}{S:A3 Ctx}
 (Y:(w0.Gy,w0.rd,w0.X)=(true,none,IJ))(Z:w0.lo=w0.n)(hy:YN P l enc Bd r J Jx w0.n)
 (hm:Bd next x s=some r)(hJ:J s I)(kl:A3 (A3<|Nat×A3 Nat))(L:A3 Nat)(av ER:A3 (A3 Nat))(EJ:A3 Bool)(G:P.follows .mixedOrders=true)(q:(LS ops av&&R2 k kl ER EJ L av&&OP ops k av)=true)
 (M:Hn (ops.toList.take k)=true)(hp:E4 P N ops Γ [] (ops.toList.take k) ER EJ S)(Ko:S.reverse.map Il=kl)(hL:M9 Γ=L)(O:Dm (S.flatten++Γ) ts Gw)
 (U:ops.toList.drop k=[⟨some dy,.call ⟨.value<| .tmp t,xs.toArray,FX⟩,ty,pos,af,none⟩,⟨some dn,.unOp .not tb<| .tmp dy,Qm,pos',Qo,none⟩])
 (ht:look Gw t=some (.val<|Qa l))(ha:AR Gw xs (enc x))(hI:look Gw N=some (.inv I))(MP:Dm Gw C HM)(IP:yOk N dy dn HM=true)(V:dy<N)(W:dn<N)
 (kt:∀s' h,next s'=some r->J s' h->Df w0 H0 N (Q .normal) ((dn,.val<|Az false)::(N,.inv h)::HM))(kf:∀h,Jx h->Df w0 H0 N (Q .normal) ((dn,.val<|Az true)::(N,.inv h)::HM)):Goal P w0 H0 N (.region id ops true) Q Γ:=by
 simp[Bq] at q;refine λa w H hs=>yj G M q.1.1 q.1.2 q.2 Ko hL hp O (H0:=H0) (λa w H hs=>?_) hs
 rw[U];exact uw Y Z hy hm hJ ht ha hI MP IP V W kt kf hs
def abZ{P:Bz}{α σ ρ:Type}(w0:Ah P)(H0:HV)(N:Nat)(J:σ->Inv->Prop)(q:α->σ)(h:α->Ctx)(k:α->A9 ρ)(r:ρ)(a:Act)(w:AS):Prop:=∃i I,k i=some r/\J (q i) I/\∃H,Sat w0 H0 N ((N,.inv I)::h i) a w H
def aaJ{C:α->σ}{q:α->Ctx}{k:α->A9 ρ}{i:α}(G:k i=some r)(M:J (C i) I)(h:Dm Γ ts ((N,.inv I)::q i)):Df w0 H0 N (λa w=>abZ w0 H0 N J C q k r a w) Γ:=λ_ _ H hs=>⟨i,I,G,M,H,hs.weaken h.sub⟩
def zy{τ:Type}(h:τ->σ)(Al:τ->Ctx){n:Nat}{B:(τ->A9 ρ)->τ->A9 ρ}{s0:τ}{C:Inv}{c:Code}(U:lp n B s0=some r)(G:J (h s0) C)(V:Dm Γ ts ((N,.inv C)::Al s0))
 (round:∀(k:τ->A9 ρ) (s:τ) (I:Inv),B k s=some r->J (h s) I->Goal P w0 H0 N c (Exit.then (abZ w0 H0 N J h Al k r) Q) ((N,.inv I)::Al s)):Goal P w0 H0 N (.loop c) Q Γ:=by
 intro a w H hs;refine wp_loop_ghost (λ(i:Nat×τ) a w=>lp i.1 B i.2=some r/\∃I H,J (h i.2) I/\Sat w0 H0 N ((N,.inv I)::Al i.2) a w H) (λi=>i.1) (n,s0) ⟨U,C,H,G,hs.weaken V.sub⟩ ?_;rintro⟨m,s⟩ a w ⟨O,I,H,G,hs⟩;cases m with
 |zero=>cases O
 |succ m=>
  refine UZ (round (lp m B) s I O G a w H hs) λe Y w' q=>?_
  cases e with|normal=>let⟨i,W,hi,M,H',X⟩:=q;exact⟨(m,i),⟨hi,W,H',M,X⟩,Nat.lt_succ_self m⟩|_=>exact q
def vH{o:A9 (A3 α)}{f:FuncId}{q:A3 Ty}{d:A9 Tmp}{g:A9 (Nat×Bool)}(C:AR Γ xs q)(h:∀L,o=some L->XZ P f q enc L):B0 P Γ ⟨d,.makeFunc (.func f) #[] xs.toArray,ty,pos,af,g⟩ (.val<|TE P enc o):=
 DA λ_ _ _ a w H hs=>by refine⟨.func (.func f) #[] (xs.map a.eval).toArray,?_,⟨f,_,q,rfl,by simpa using C.ok hs,h⟩,rfl⟩;simp[execOp,Instr.makeFunc]
end
section
variable[D:DR]
variable{P:Program}{w0:Ah P}{H0:HV}{N:Nat}{ops:Array Oper}{Q:Exit->Act->World->Prop}{Γ Ar:Ctx}{d:Option Tmp}{ty:TypeId}{pos:String}{af:Array Edge}{g:Option (Nat×Bool)}
variable{w:AS}{a:Act}{H:HV}{B:Ah P}{v:AW}{i t:Nat}{T:Ap}{b off:Nat}{gg:Bool}
def Bf:A3 Bm->Nat->Nat
 |[],_=>0|_::_,0=>0|p::l,i+1=>p.n+Bf l i
def pv(p:Bm)(off:Nat)(cs:A3 AW):AW:=Fc p.agg ((cs.drop off).take p.n).toArray
def Mv{w:AS}{b:Nat}:∀{ps:A3 Bm} {cs:A3 AW},F7 w b ps cs↔∃(i:Nat) (p:Bm),ps[i]? =some p/\p.owns w (pv p (Bf ps i) cs) b
 |[],cs=>by simp[F7]
 |p::l,cs=>by
  simp[F7,Mv (ps:=l)];constructor
  .rintro(h|⟨i,q,h1,h2⟩)
   .exact⟨0,p,rfl,by simpa[pv,Bf] using h⟩
   .exact⟨i+1,q,by simpa using h1,by simpa[pv,Bf,Ee] using h2⟩
  .rintro⟨i,q,h1,h2⟩;cases i with|zero=>simp at h1;subst h1;exact .inl (by simpa[pv,Bf] using h2)|succ i=>exact .inr ⟨i,q,by simpa using h1,by simpa[pv,Bf,Ee] using h2⟩
def nU{w:AS}:∀{ps:A3 Bm} {cs:A3 AW},LX w ps cs↔∀(i j:Nat) (p q:Bm),i<j->ps[i]? =some p->ps[j]? =some q->∀b,p.owns w (pv p (Bf ps i) cs) b-> ¬q.owns w (pv q (Bf ps j) cs) b
 |[],cs=>by simp[LX]
 |p::l,cs=>by
  simp[LX,nU (ps:=l)];constructor
  .rintro⟨h1,h2⟩ i j a b W C G c M O;cases j with
   |zero=>omega
   |succ j=>
    have U:l[j]? =some b:=by simpa using G
    have V:b.owns w (pv b (Bf l j)<|cs.drop p.n) c:=by simpa[pv,Bf,Ee] using O
    cases i with
    |zero=>simp at C;subst C;exact h1 c (by simpa[pv,Bf] using M)<|Mv.2 ⟨j,b,U,V⟩
    |succ i=>exact h2 i j a b (by omega) (by simpa using C) U c (by simpa[pv,Bf,Ee] using M) V
  .intro h;refine⟨λb G X=>?_,λi j a b W C G c M O=>?_⟩
   .let⟨j,q,h1,h2⟩:=Mv.1 X;exact h 0 (j+1) p q (by omega) rfl (by simpa using h1) b (by simpa[pv,Bf] using G) (by simpa[pv,Bf,Ee] using h2)
   .exact h (i+1) (j+1) a b (by omega) (by simpa using C) (by simpa using G) c (by simpa[pv,Bf,Ee] using M) (by simpa[pv,Bf,Ee] using O)
def Wy{n:Nat}{agg:Bool}(h:Shape n agg v):v.cells.toList.length=n:=by simpa using h.size
def OV{B:Ah P}{a:Act}{w:AS}{H:HV}:∀{ps:A3 Bm} {cs:A3 AW} {i:Nat} {p:Bm},Gz B a w H ps cs->ps[i]? =some p->Bf ps i+p.n<=cs.length/\Shape p.n p.agg (pv p (Bf ps i) cs)/\p.holds B a w H (pv p (Bf ps i) cs)/\(pv p (Bf ps i) cs).cells.toList=(cs.drop<|Bf ps i).take p.n
 |[],_,i,_,_,h=>by simp at h
 |p::l,_,0,q,⟨v,rest,e,E5,hv,hr⟩,h=>by
  simp at h;subst h;subst e;have M:=Wy E5;have C:pv p (Bf (p::l) 0) (v.cells.toList++rest)=v:=by simpa[pv,Bf] using(O4 (rest:=rest) E5).1
  rw[C];refine⟨by simp[Bf];have:=E5.size;omega,E5,hv,?_⟩;simp[Bf,NB];rw[<-M,db]
 |p::l,_,i+1,q,⟨v,rest,e,E5,hv,hr⟩,h=>by
  simp at h;subst e;let⟨W,O,U,V⟩:=OV hr h;have G:List.drop (Bf (p::l)<|i+1) (v.cells.toList++rest)=List.drop (Bf l i) rest:=by simp[Bf];rw[<-Wy E5,LC];simp
  have C:pv q (Bf (p::l)<|i+1) (v.cells.toList++rest)=pv q (Bf l i) rest:=by simp[pv,G]
  rw[C,G];refine⟨?_,O,U,V⟩;have:=E5.size;simp[Bf];omega
def zJ{B:Ah P}{a:Act}{w:AS}{H:HV}:∀{ps:A3 Bm} {cs:A3 AW},Gz B a w H ps cs->cs.length=(ps.map Bm.n).sum
 |[],_,e=>by have e:_=[]:=e;subst e;rfl
 |p::l,_,⟨v,rest,e,E5,hv,hr⟩=>by subst e;have:=zJ hr;have h:=E5.size;simp[this,h]
theorem p8{B:Ah P}{a:Act}{w:AS}{H:HV}:∀{ps:A3 Bm} {cs:A3 AW} {i:Nat} {p q:Bm} {x:AW},Gz B a w H ps cs->ps[i]? =some p->Shape q.n q.agg x->q.n=p.n->q.holds B a w H x->Gz B a w H (ps.set i q) (cs.take (Bf ps i)++x.cells.toList++cs.drop (Bf ps i+p.n))/\Bf (ps.set i q) i=Bf ps i/\pv q (Bf ps i) (cs.take (Bf ps i)++x.cells.toList++cs.drop (Bf ps i+p.n))=x/\
  ∀(j:Nat) (r:Bm),j≠i->ps[j]? =some r->Bf (ps.set i q) j=Bf ps j/\pv r (Bf ps j) (cs.take (Bf ps i)++x.cells.toList++cs.drop (Bf ps i+p.n))=pv r (Bf ps j) cs
 |[],_,i,_,_,_,_,h,_,_,_=>by simp at h
 |p::l,_,0,q,r,x,⟨v,rest,e,E5,hv,hr⟩,h,hx,hn,hq=>by
  simp at h;subst h;subst e;have C:=Wy E5;have U:=Wy hx;have V:List.drop (Bf (p::l) 0+p.n) (v.cells.toList++rest)=rest:=by simp[Bf,N9];rw[<-C,Uc]
  rw[V];simp only[List.set_cons_zero,Bf,List.take_zero,Fy];refine⟨⟨x,rest,rfl,hx,hq,hr⟩,trivial,by simpa[pv] using(O4 (rest:=rest) hx).1,?_⟩;intro j s O hs;cases j with
  |zero=>exact absurd rfl O
  |succ j=>
   simp[Bf,hn,true_and,pv];have W:List.drop (p.n+Bf l j) (x.cells.toList++rest)=List.drop (Bf l j) rest:=by rw[<-hn,<-U,LC];simp
   have X:List.drop (p.n+Bf l j) (v.cells.toList++rest)=List.drop (Bf l j) rest:=by rw[<-C,LC];simp
   rw[W,X]
 |p::l,_,i+1,q,r,x,⟨v,rest,e,E5,hv,hr⟩,h,hx,hn,hq=>by
  simp at h;subst e;have C:=Wy E5;let⟨Y,Z,h3,h4⟩:=p8 hr h hx hn hq;have et:List.take (Bf (p::l)<|i+1) (v.cells.toList++rest)=v.cells.toList++List.take (Bf l i) rest:=by simp[Bf];rw[<-C,Uj];simp[Ce]
  have ed:List.drop (Bf (p::l) (i+1)+q.n) (v.cells.toList++rest)=List.drop (Bf l i+q.n) rest:=by
   simp[Bf];rw[<-C,Iw,LC];simp
   done
  have ec:List.take (Bf (p::l)<|i+1) (v.cells.toList++rest)++x.cells.toList++List.drop (Bf (p::l) (i+1)+q.n) (v.cells.toList++rest)=v.cells.toList++(List.take (Bf l i) rest++x.cells.toList++List.drop (Bf l i+q.n) rest):=by grind
  rw[ec];have M:∀(s:Bm) (o:Nat) (G:A3 AW),pv s (p.n+o) (v.cells.toList++G)=pv s o G:=λs o G=>by
   simp[pv];have:List.drop (p.n+o) (v.cells.toList++G)=List.drop o G:=by rw[LC,Ke (by omega),C];simp
   rw[this]
  refine⟨⟨v,_,rfl,E5,hv,Y⟩,by simp[Bf,Z],?_,?_⟩
  .simp only[Bf];rw[M];exact h3
  .intro j s O hs;cases j with
   |zero=>simp at hs;subst hs;refine⟨rfl,?_⟩;simp only[Bf];have g1:=(O4 (rest:=List.take (Bf l i) rest++x.cells.toList++List.drop (Bf l i+q.n) rest) E5).1;have g2:=(O4 (rest:=rest) E5).1;simp only[pv,NB];rw[g1,g2]
   |succ j=>let⟨k1,k2⟩:=h4 j s (by omega) (by simpa using hs);refine⟨by simp[Bf,k1],?_⟩;simp only[Bf];rw[M,M];exact k2
theorem UM{ps:A3 Bm}{cs:A3 AW}{p q:Bm}{x:AW}(h:Gz B a w H ps cs)(hs:LX w ps cs)(hi:ps[i]? =some p)(Z:Shape q.n q.agg x)(hn:q.n=p.n)(hq:q.holds B a w H x)
 (U:∀b,q.owns w x b->p.owns w (pv p (Bf ps i) cs) b\/ ¬F7 w b ps cs):∃O,O=cs.take (Bf ps i)++x.cells.toList++cs.drop (Bf ps i+p.n)/\Gz B a w H (ps.set i q) O/\LX w (ps.set i q) O/\
   (∀b,F7 w b (ps.set i q) O->q.owns w x b\/(F7 w b ps cs/\ ¬p.owns w (pv p (Bf ps i) cs) b)):=by
 let⟨h1,h2,h3,X⟩:=p8 h hi Z hn hq;have hlt:=(EP.1 hi).1;have V:∀j s,(ps.set i q)[j]? =some s->(j=i/\s=q)\/(j≠i/\ps[j]? =some s):=λj s G=>by
  by_cases e:j=i
  .grind
  .grind
 have MB:=nU.1 hs;have W:∀j s,j≠i->ps[j]? =some s->∀b,s.owns w (pv s (Bf ps j) cs) b-> ¬p.owns w (pv p (Bf ps i) cs) b:=λj s G M b C Y=>by
  rcases Nat.lt_or_gt_of_ne G with h|h
  .grind
  .grind
 have at2:∀j s,j≠i->ps[j]? =some s->∀b,s.owns w (pv s (Bf ps j) cs) b-> ¬q.owns w x b:=λj s G M b C Y=>by
  rcases U b Y with h|h
  .grind
  .exact h<|Mv.2 ⟨j,s,M,C⟩
 refine⟨_,rfl,h1,nU.2 ?_,λb C=>?_⟩
 .grind
 .let⟨j,s,G,C⟩:=Mv.1 C;rcases V j s G with⟨rfl,rfl⟩|⟨nj,ej⟩
  .grind
  .rw[(X j s nj ej).1,(X j s nj ej).2] at C;exact .inr ⟨Mv.2 ⟨j,s,ej,C⟩,W j s nj ej b C⟩
def dC{ps:A3 Bm}{cs:A3 AW}{p:Bm}(h:Gz B a w H ps cs)(hi:ps[i]? =some p):cs.take (Bf ps i)++(pv p (Bf ps i) cs).cells.toList++cs.drop (Bf ps i+p.n)=cs:=by let⟨C,_,_,q⟩:=OV h hi;rw[q,<-Ee,Fz,MK,MK]
theorem ahe{dd:Nat}{s s' M:AT}(hs:Sat w0 H0 N Γ a w H)(X:(t,s)∈Γ)(Y:dd<N)(V:dd≠t)(Z:dd∉M.Bv)
 (MB:s'.holds w0 (a.put (some dd) v) w H (Ad a t))(hv:M.holds w0 a w H v)(o1:∀b,s'.owns w (Ad a t) b->s.owns w (Ad a t) b)(o2:∀b,M.owns w v b->s.owns w (Ad a t) b)
 (o3:∀b,M.owns w v b-> ¬s'.owns w (Ad a t) b):Sat w0 H0 N ((dd,M)::(t,s')::del dd (BH t Γ)) (a.put (some dd) v) w H:=by
 have sub:∀q∈del dd (BH t Γ),q∈Γ/\q.1≠t:=λq C=>Cp q<|K0 q C
 have O:Sat w0 H0 N ((dd,M)::del dd (BH t Γ)) (a.put (some dd) v) w H:=O2 (hs.weaken λq C=>(sub q C).1) Y N1 Z hv λb U q C G=>hs.sep _ X q (sub q C).1 (λe=>(sub q C).2 e.symm) b (o2 b U) G
 have et:Ad (a.put (some dd) v) t=Ad a t:=Mr V;have ed:Ad (a.put (some dd) v) dd=v:=Tx (by rw[hs.sz];exact Y);have eo:∀q∈del dd (BH t Γ),Ad (a.put (some dd) v) q.1=Ad a q.1:=λq C=>Mr (qR C).1.symm
 have key:∀q∈(dd,M)::del dd (BH t Γ),∀b,s'.owns w (Ad a t) b-> ¬q.2.owns w (Ad (a.put (some dd) v) q.1) b:=λq C b U G=>by
  rcases Ak.1 C with e|C
  .grind
  .rw[eo q C] at G;exact hs.sep _ X q (sub q C).1 (λe=>(sub q C).2 e.symm) b (o1 b U) G
 have h2:Sat w0 H0 N ((t,s')::(dd,M)::del dd (BH t Γ)) (a.put (some dd) v) w H:=by
  refine⟨O.nd,O.sz,O.below,O.FY,O.sub,?_,?_,O.gl⟩
  .intro q C;rcases Ak.1 C with e|C
   .grind
   .exact O.holds q C
  .intro q C r W hn b U DI;rcases Ak.1 C with e|C<;>rcases Ak.1 W with e'|W
   .grind
   .grind
   .grind
   .exact O.sep q C r W hn b U DI
 refine h2.weaken λq C=>?_
 simp[Ak] at C⊢;rcases C with h|h|h
 .grind
 .exact .inl h
 .grind
inductive EY(Γ:Ctx):Nat->Nat->Nat->Prop where
 |ptr {p t off:Nat} (h:look Γ p=some (.ptr t off)):EY Γ p t off|box {t:Nat} {T:Ap} {g:Bool} {ps:A3 Bm} (h:look Γ t=some (.Cg T g ps)):EY Γ t t 0
def EY.ok{p:Nat}{ps:A3 Bm}(h:EY Γ p t off)(G:look Γ t=some (.Cg T gg ps))(hs:Sat w0 H0 N Γ a w H):∃b cs,Ad a t= .pointer (some ⟨b,0,none⟩)/\a.eval (.tmp p)= .pointer (some ⟨b,off,none⟩)/\w.heap[b]? =some (.cells cs T (0,0))/\H b=none/\w0.Da b/\Gz w0 a w H ps cs.toList/\LX w ps cs.toList/\ ¬F7 w b ps cs.toList:=by
 let⟨b,cs,e,M,O,U,V,W,X⟩:=hs.holds _<|B8 G
 simp only at e;refine⟨b,cs,e,?_,M,O,U,V,W,X⟩;cases h with
 |ptr h=>
  let⟨Y,q,C⟩:=hs.holds _<|B8 h
  simp only at q C;rw[e] at q;cases q;exact C
 |box h=>exact e
def Pj{k:Nat}{T':Ap}{ps:A3 Bm}(h:look Γ t=some (.Cg T' gg ps))(q:FI P T k off=true):B0 P Γ ⟨d,.fieldAddr T (.tmp t) k,ty,pos,af,g⟩ (.ptr t off):=
 DA λ_ _ _ a w _ hs=>by
  let⟨b,cs,e,_⟩:=hs.holds _<|B8 h
  have C:a.eval (.tmp t)= .pointer (some ⟨b,0,none⟩):=e;exact⟨.pointer<|some ⟨b,0+off,none⟩,by simp[execOp,C,Wn q],⟨b,e,by simp⟩,rfl⟩
def wC{p:Bm}{cs:B9 AW}{E:Ap}{w':AS}{ps:A3 Bm}(q:Bj P T p.n p.agg=true)(C:w.heap[b]? =some (.cells cs E (0,0)))(h:Gz B a w' H ps cs.toList)(hi:ps[i]? =some p):(loadVar T ⟨b,Bf ps i,none⟩).run P w= .ok (pv p (Bf ps i) cs.toList) w:=by let⟨G,_,_,_⟩:=OV h hi;exact PJ q C (by simpa using G)
def aDy{p:Nat}{T':Ap}{ps:A3 Bm}{τ:Ty}(q:EY Γ p t off)(C:look Γ t=some (.Cg T' gg ps))(hi:ps[i]? =some (.val τ))(G:Bf ps i=off)(M:Bj P T τ.n τ.agg=true):B0 P Γ ⟨d,.load T<| .tmp p,ty,pos,af,g⟩ (.val τ):=
 DA λ_ _ _ a w _ hs=>by let⟨b,cs,e,O,U,_,_,h,_⟩:=q.ok C hs;subst G;let⟨_,_,V,_⟩:=OV h hi;refine⟨_,?_,V,rfl⟩;simp[execOp,O,Instr.loadAt,Instr.sureAddr,wC (p:= .val τ) M U h hi]
def Bm.sty:Bm->AT
 | .buf E sz l=> .buf E sz l| .map K E Eb sz L0=> .Fa K E Eb sz L0|_=> .gone
def Bm.ahL:∀{p:Bm},p.holds B a w H v->p.sty.holds B a w H v
 | .val _,_=>trivial| .any _ _,_=>trivial| .sm _,_=>trivial| .buf _ _ _,h=>h| .map _ _ _ _ _,h=>h
def Bm.XL:∀{p:Bm},p.sty.owns w v b↔p.owns w v b
 | .val _=>Iff.rfl| .any _ _=>Iff.rfl| .sm _=>Iff.rfl| .buf _ _ _=>Iff.rfl| .map _ _ _ _ _=>Iff.rfl
def Bm.ahK:∀{p:Bm},p.sty.Bv=[]
 | .val _=>rfl| .any _ _=>rfl| .sm _=>rfl| .buf _ _ _=>rfl| .map _ _ _ _ _=>rfl
def Qi(d:Nat):Bool->Bm
 |true=> .sm d|false=> .any 1 false
end
end Trn
