/-
  Part of the proof of SolidOperations.
-/
import Derived.WalkKit
import Derived.Orders
import Derived.RangeFuncIn
import Derived.RangeFuncRecord
import Derived.RangeFuncLeaves
import Derived.RangeFuncSeq
import Derived.Scope
import Derived.Shelf.Strings.Builder1
set_option maxRecDepth 100000
set_option maxHeartbeats 20000000
set_option linter.all false
open Go Go.RowKit Go.Proofs
namespace Trn
section
variable{p:Prop}
def As:= @of_decide_eq_true
def Ao:= @List.mem_cons
def B5:= @decide_eq_true
def Bg:= @of_decide_eq_false
def C2:= @List.mem_cons_of_mem
def BY:= @List.length_map
def Ar:= @cond_false
def Cr:= @Classical.byContradiction
def Bs:= @List.mem_append
def Bu:= @decide_eq_false
def C6:= @Bool.and_eq_true
def BR:= @List.mem_map
def Cz:= @List.take_of_length_le
def BM:= @Nat.le_refl
def Cl:= @List.mem_singleton
def Ce:= @Int.toNat_natCast
def BH:= @cond_true
def Ew:= @Int.mul_le_mul_of_nonneg_left
def DT:= @List.mem_cons_self
def EA:= @Nat.eq_of_beq_eq_true
def Dg:= @List.length_append
def FP:= @List.getElem?_eq_some_iff
def F2:= @Int.eq_ofNat_of_zero_le
def Dn:= @Go.Result.andThen_ok
def Dk:= @List.all_eq_true
def Cu:= @Nat.le_trans
def E1:= @List.length_take
def Dc:= @Rat.mul_nonneg
def E7:= @List.length_cons
def Fa:= @Nat.le_of_ble_eq_true
def Gj:= @List.getElem?_eq_getElem
def E9:= @Option.some.inj
def Fg:= @Array.length_toList
def EV:= @Nat.min_eq_left
def DS:= @Int.mul_add
def E0:= @Go.Sem.run_bind
def GB:= @Int.natAbs_natCast
def JL:= @List.getD_eq_getElem?_getD
def GA:= @Bool.not_eq_true'
def GM:= @Int.mul_left_comm
def Il:= @decide_eq_false_iff_not
def EU:= @Int.le_of_lt
def LP:= @List.eq_nil_of_length_eq_zero
def FZ:= @List.drop_drop
def IE:= @List.length_singleton
def G9:= @List.map_append
def H9:= @List.getElem?_map
def FO:= @Int.mul_assoc
def Ik:= @Nat.ble_eq_true_of_le
def Ij:= @List.mem_append_left
def FD:= @Int.mul_comm
def Hn:= @decide_eq_true_iff
def Hm:= @List.append_assoc
def N5:= @Int.mul_le_mul_of_nonneg_right
def Ha:= @decide_eq_decide
def FY:= @Nat.zero_le
def KD:= @Nat.pow_le_pow_right
def JK:= @List.pairwise_cons
def MX:= @List.getElem?_append_left
def HK:= @Nat.mul_le_mul
def Hl:= @Rat.mul_eq_zero
def Jn:= @Nat.lt_of_lt_of_le
def N4:= @List.getElem?_append_right
def Ii:= @List.length_drop
def GZ:= @Rat.le_of_lt
def LO:= @List.mem_of_getElem?
def LN:= @Nat.mul_le_mul_right
def LM:= @List.pairwise_append
def Ih:= @List.append_nil
def GY:= @Rat.le_refl
def GX:= @Rat.mul_pos
def JJ:= @List.mem_filter
def LL:= @Nat.eq_zero_or_pos
def LK:= @Int.emod_lt_of_pos
def N2:= @List.drop_of_length_le
def MW:= @Bool.or_eq_false_iff
def MV:= @Int.ofNat_eq_natCast
def Hk:= @Nat.lt_or_ge
def KC:= @List.nil_append
def Nl:= @List.length_replicate
def ID:= @Int.add_mul
def Ly:= @List.getElem_mem
def Lx:= @List.mem_flatMap
def LJ:= @List.length_set
def LI:= @Int.ediv_nonneg
def Kd:= @Go.run_underlying
def Oj:= @List.take_append_drop
def Oi:= @Int.emod_add_mul_ediv
def Lw:= @Int.emod_nonneg
def LH:= @Int.mul_nonneg
def JI:= @Int.one_mul
def KB:= @Go.Sem.run_pure
def KA:= @getElem!_pos
def Nk:= @Rat.div_mul_cancel
def Lv:= @Go.heap_alloc_new
def Pq:= @Array.getElem?_toList
def LG:= @Nat.add_assoc
def SV:= @Array.getElem?_eq_some_iff
def Nj:= @List.pairwise_map
def MU:= @List.drop_take
def Lt:= @Bool.true_and
def Ls:= @Prod.mk.injEq
def Nf:= @List.drop_append
def UM:= @Array.getD_eq_getD_getElem?
def Kc:= @Nat.add_mul
def OW:= @Rat.divInt_eq_div
def SJ:= @List.pairwise_singleton
def MO:= @List.map_cons
def Mw:= @Int.natAbs_mul
def Qk:= @List.mem_of_mem_take
def Nd:= @Rat.num_eq_zero
def Qj:= @Prod.ext_iff
def UK:= @List.drop_eq_getElem_cons
def Pg:= @List.flatMap_cons
def MN:= @Nat.mul_comm
def UJ:= @List.Pairwise.imp_of_mem
def OV:= @Go.Oper.upon_value
def Lr:= @Int.mul_one
def OU:= @List.take_take
def Pf:= @Option.map_some
def Zk:= @Rat.mul_le_mul_of_nonneg_right
def UI:= @List.mem_append_right
def UH:= @List.contains_iff_mem
def UG:= @Array.getElem?_modify
def Qi:= @List.nil_sublist
def OT:= @List.all_cons
def Mv:= @Nat.one_mul
def Mu:= @Nat.pow_add
def MM:= @bne_iff_ne
def UF:= @List.mem_of_mem_drop
def Pe:= @List.drop_zero
def Pd:= @Int.mul_le_mul
def Qh:= @Bool.or_eq_true
def WQ:= @List.getElem?_set_self
def WO:= @Int.sign_eq_one_of_pos
def SI:= @List.cons_append
def SH:= @Nat.mod_eq_of_lt
def SG:= @List.drop_length
def SF:= @Int.ediv_le_self
def UE:= @Bool.false_eq_true
def Qg:= @List.mem_range
def Qf:= @Go.Oper.upon_skip
def UD:= @List.getElem?_drop
def Qe:= @Bool.false_and
def Zj:= @List.pairwise_iff_getElem
def Pc:= @Nat.zero_add
def Pb:= @Nat.add_comm
def SE:= @Int.natCast_mul
def SD:= @Rat.num_intCast
def UC:= @Int.emod_eq_of_lt
def UB:= @List.nodup_append
def Qd:= @Bool.not_true
def Zi:= @Go.World.putObj_heap_other
def Zh:= @List.sublist_append_iff
def WN:= @List.length_pos_iff
def UA:= @Nat.le_add_right
def OS:= @Nat.mod_lt
def Pa:= @Rat.div_def
def WM:= @List.getElem?_take
def WL:= @List.filter_append
def WK:= @Bool.not_eq_false'
def Qc:= @Nat.pow_succ
def iq:= @Int.gcd_pos_of_ne_zero_left
def Zg:= @Int.ediv_lt_of_lt_mul
def U9:= @Rat.den_intCast
def Zf:= @List.mem_iff_getElem?
def im:= @Array.toList_setIfInBounds
def il:= @Int.sign_eq_neg_one_of_neg
def WJ:= @decide_eq_true_eq
def WI:= @List.ext_getElem?
def WH:= @Int.lt_trichotomy
def ik:= @Array.getElem?_eq_getElem
def ij:= @Int.lt_of_mul_lt_mul_left
def ig:= @List.sublist_append_right
def Qb:= @Nat.le_succ
def Qa:= @Nat.log2_lt
def WG:= @List.take_append
def SC:= @Nat.succ_mul
def SB:= @Nat.gcd_comm
def WE:= @List.isEmpty_iff
def Ze:= @List.take_replicate
def Zd:= @beq_eq_false_iff_ne
def Zc:= @Nat.mul_le_mul_left
def Zb:= @List.flatMap_append
def QZ:= @beq_iff_eq
def WD:= @Go.Oper.upon_enter
def WC:= @Array.size_ofFn
def WB:= @Int.mul_ne_zero
def ie:= @Array.getElem?_eq_none
def SA:= @Rat.inv_pos
def iZ:= @List.length_eq_one_iff
def Za:= @List.any_eq_false
def ZZ:= @List.foldl_append
def ZY:= @List.Sublist.refl
def U8:= @Nat.add_zero
def U7:= @List.map_set
def U6:= @List.map_map
def iY:= @Array.getElem?_append
def U5:= @Int.mul_zero
def WA:= @Rat.mkRat_self
def W9:= @Int.natAbs_neg
def iX:= @List.eq_nil_or_concat
def ZX:= @List.not_mem_nil
def ZW:= @Option.getD_some
def ZV:= @Go.Lib.cell_of_heap
def ZU:= @List.filter_cons
def iW:= @BitVec.ofInt_natCast
def ZT:= @List.append_inj'
def qT:= @List.map_take
def W8:= @Bool.false_or
def U4:= @Go.setRow_heap
def U3:= @Int.mul_sub
def iV:= @List.take_succ_cons
def iU:= @List.map_congr_left
def iS:= @List.drop_set_of_lt
def qS:= @List.getElem?_zip_eq_some
def ZS:= @List.length_nil
def ZR:= @Bool.decide_and
def ZQ:= @Bool.eq_iff_iff
def ZP:= @List.any_append
def W7:= @Nat.le_of_lt
def iR:= @List.map_replicate
def W6:= @Int.add_zero
def iQ:= @BitVec.toNat_ofNat
def iP:= @Rat.mul_inv_cancel
def ZO:= @List.drop_left
def iN:= @List.size_toArray
def qR:= @Go.World.putObj_heap_same
def ZN:= @Bool.or_false
def iM:= @List.any_eq_true
def qQ:= @List.pairwise_flatMap
def qP:= @List.concat_eq_append
def ZM:= @List.map_nil
def ZK:= @Bool.true_or
def iL:= @List.foldl_cons
def iK:= @List.nodup_cons
def qO:= @List.contains_eq_mem
def qN:= @List.getElem?_set_ne
def iJ:= @List.all_append
def ZJ:= @Rat.le_trans
def iI:= @UInt8.toNat_inj
def ZI:= @or_and_right
def iH:= @Rat.intCast_inj
def iG:= @List.take_left
def iF:= @Bool.and_false
def iE:= @Rat.num_divInt
def iD:= @Rat.den_divInt
def ZH:= @Int.sub_mul
def W5:= @Go.wpIn_mono
def qM:= @Rat.sub_eq_add_neg
def qL:= @List.append_of_mem
def iC:= @Bool.and_true
def qK:= @Nat.le_of_not_lt
def iB:= @Int.zero_sub
def iA:= @Nat.zero_mul
def gz:= @Rat.le_total
def BZ(h:p:=by dsimp only;omega):p:=h
def DC(h:p:=by simp;omega):p:=h
def Lg(h:p:=by decide):p:=h
def FU(h:p:=by rfl):p:=h
theorem AK(h:p:=by grind):p:=h
def AV(h:p:=by simp):p:=h
def A4(h:p:=by omega):p:=h
def A7{α:Sort _}{a b:α}(h:a=b:=by kernel_rfl):a=b:=h
end
abbrev A3:=List
abbrev AA:=Option
abbrev AR:=World
abbrev AW:=Value
abbrev CH:=Operand
abbrev Ap:=TypeId
abbrev CO:=Program
abbrev BA:=Array
abbrev HV:=Nat->AA Obj
class DR where
 on:Bool
def DR.m[D:DR](w:AR):Nat:=cond D.on w.drawn 0
abbrev DR.strict:DR:=⟨true⟩
instance DR.lax:DR:=⟨false⟩
abbrev H5[D:DR](w w':AR):Prop:=DR.m w<=DR.m w'
theorem H5.of[D:DR]{w w':AR}(h:w.drawn<=w'.drawn):H5 w w':=by
 unfold H5 DR.m;cases D.on
 ·grind
 ·exact h
class acA[D:DR]:Prop where
 off:D.on=false
instance: @acA DR.lax:= @acA.mk DR.lax rfl
def HV.le(H H':HV):Prop:=∀r o,H r=some o->H' r=some o
def HV.le.refl(H:HV):HV.le H H:=λ_ _ h=>h
def HV.le.trans{A B C:HV}(h:HV.le A B)(k:HV.le B C):HV.le A C:=λr o x=>k r o<|h r o x
def fA:BA AW:=((List.range 20).map λi=>Value.int .u64<|10^i).toArray
def Sa(P:CO)(T:Ap)(o:AA Obj):Prop:=match P.underlying T with
 |some (.int k)=>∃m E fr,o=some (.cells #[.int k m] E fr)
 |some (.array 20 _)=>∃E fr,o=some (.cells fA E fr)
 |_=>True
def LR(P:CO)(H:HV):Prop:=∀g T,(P.globals[g]?).map (·.type)=some T->Sa P T (H g)
def LR.mono{P:CO}{H H':HV}(h:HV.le H H')(k:LR P H):LR P H':=λg T e=>by
 have:=k g T e;unfold Sa at this⊢;split
 ·rename_i hu;rw[hu] at this;let⟨m,E,fr,e⟩:=this;exact⟨m,E,fr,h _ _ e⟩
 ·rename_i hu;rw[hu] at this;let⟨E,fr,e⟩:=this;exact⟨E,fr,h _ _ e⟩
 ·trivial
structure Aj(P:CO) where
 w:AR
 X:Nat->Prop
 rd:AA Nat
 J3:Bool
 ds:A3 Deferred
 lo:Nat
 acR:lo<=w.heap.size
 arw:∀k,X k->lo<=k
section
variable{P:Program}
def KR:Nat->Prop:=λ_=>False
def Aj.call(P:CO)(w:AR):Aj P:=⟨w,KR,none,false,[],w.heap.size,BM _,λ_ h=>h.elim⟩
def Aj.n(b:Aj P):Nat:=b.w.heap.size
def Aj.ED(b:Aj P)(k:Nat):Prop:=b.n<=k\/b.X k
def Aj.QX{b:Aj P}{k:Nat}(h:b.ED k):b.lo<=k:=h.elim (λh=>Cu b.acR h)<|b.arw k
def Aj.lo_le{b:Aj P}:b.lo<=b.n:=b.acR
end
section
variable{P:Program}
variable[D:DR]
variable{w:AR}{b:Aj P}
structure FV(n:Nat)(w w':AR):Prop extends Below n w w' where
 drawn:H5 w w'
structure Ee(w w':AR)(row:AA Nat):Prop extends w.grownBy w' row where
 drawn:H5 w w'
def FV.refl(n:Nat)(w:AR):FV n w w:=⟨Below.refl _ _,BM _⟩
def FV.alloc{w:AR}(o:Obj):FV w.heap.size w (w.alloc o):=⟨(Below.refl _ _).alloc (BM _) _,BM _⟩
def Ee.setRow(w:AR)(b:Nat)(cs:BA AW):Ee w (w.setRow b cs) (some b):=⟨⟨rfl,rfl,rfl,by simp,λk _ hk=>setRow_other w b k _ (λe=>hk (by rw[e]))⟩,BM _⟩
structure Kept(b:Aj P)(w:AR):Prop where
 os:w.os=b.w.os
 tape:w.tape=b.w.tape
 output:w.output=b.w.output
 drawn:H5 b.w w
 size:b.n<=w.heap.size
 block:b.J3=false->∀k,k<b.n-> ¬b.X k->w.heap[k]? =b.w.heap[k]?
def Kept.step{w':AR}(h:Kept b w)(k:FV w.heap.size w w'):Kept b w':=⟨k.os.trans h.os,k.tape.trans h.tape,k.output.trans h.output,Cu h.drawn k.drawn,Cu h.size k.size,λhv i hi hx=>(k.block i<|Jn hi h.size).trans<|h.block hv i hi hx⟩
def Kept.LV{w':AR}{row:AA Nat}(h:Kept b w)(g:Ee w w' row)(hr:∀k,row=some k->b.ED k):Kept b w':=
 ⟨g.os.trans h.os,g.tape.trans h.tape,g.output.trans h.output,Cu h.drawn g.drawn,Cu h.size g.size,λhv i hi hx=>(g.block i (Jn hi h.size) (λe=>by
  rcases hr i e.symm with h1|h1
  ·omega
  ·exact hx h1)).trans<|h.block hv i hi hx⟩
def Kept.below(h:Kept b w)(hX:b.X=KR)(hv:b.J3=false):FV b.w.heap.size b.w w:=⟨⟨h.os,h.tape,h.output,h.size,λk hk=>h.block hv k hk (by rw[hX];exact λh=>h)⟩,h.drawn⟩
end
section
variable{P:Program}
variable{H:HV}{v:AW}{H':HV}
def grow(H:HV)(w w':AR):HV:=λr=>if r<w.heap.size then H r else w'.heap[r]?
def Gu:Bool->BA AW->AW
 |true,cs=> .agg cs
 |false,cs=>cs.getD 0 undef
structure Shape(n:Nat)(agg:Bool)(v:AW):Prop where
 size:v.cells.size=n
 cell:∀c∈v.cells.toList,c.oneCell'=true
 eq:v=Gu agg v.cells
def Shape.one(h:v.oneCell'=true):Shape 1 false v:=by
 have hc:v.cells= #[v]:=by cases v<;>first|rfl|simp[Value.oneCell'] at h
 refine⟨by simp[hc],by simp[hc,h],by simp[hc,Gu]⟩
structure Ty where
 n:Nat
 agg:Bool
 ok:HV->AW->Prop
 mono:∀{H H':HV} {v:AW},HV.le H H'->ok H v->ok H' v
 shape:∀{H:HV} {v:AW},ok H v->Shape n agg v
def TEq(v:AW)(h:v.oneCell'=true):Ty where
 n:=1
 agg:=false
 ok:=λ_ x=>x=v
 mono:=λ_ h=>h
 shape:=λe=>by subst e;exact Shape.one h
def TI(k:IntKind)(n:Int):Ty:=TEq (.int k n) rfl
def Aw(b:Bool):Ty:=TEq (.bool b) rfl
def T6(s:ByteArray):Ty:=TEq (.string s) rfl
@[simp] theorem ru{k:IntKind}{n:Int}:(TI k n).ok H v↔v= .int k n:=Iff.rfl
@[simp] theorem avH{b:Bool}:(Aw b).ok H v↔v= .bool b:=Iff.rfl
@[simp] theorem avJ{b:ByteArray}:(T6 b).ok H v↔v= .string b:=Iff.rfl
def DQ(H:HV):A3 Ty->A3 AW->Prop
 |[],cs=>cs=[]
 |τ::l,cs=>∃v rest,cs=v.cells.toList++rest/\τ.ok H v/\DQ H l rest
def CS(l:A3 Ty):Nat:=(l.map (·.n)).sum
@[simp] theorem ahu:CS []=0:=rfl
@[simp] theorem nD(τ:Ty)(l:A3 Ty):CS (τ::l)=τ.n+CS l:=by simp[CS]
def QP{H H':HV}(h:HV.le H H'):∀{l:A3 Ty} {cs:A3 AW},DQ H l cs->DQ H' l cs
 |[],_,e=>e
 |_::_,_,⟨v,rest,e,hv,hr⟩=>⟨v,rest,e,Ty.mono _ h hv,QP h hr⟩
def Mt{H:HV}:∀{l:A3 Ty} {cs:A3 AW},DQ H l cs->cs.length=CS l
 |[],_,e=>by subst e;rfl
 |τ::l,_,⟨v,rest,e,hv,hr⟩=>by subst e;have:=Mt hr;have hs:=(τ.shape hv).size;simp[this,hs]
def Rx{H:HV}:∀{l:A3 Ty} {cs:A3 AW},DQ H l cs->∀c∈cs,c.oneCell'=true
 |[],_,e=>by subst e;simp
 |τ::l,_,⟨v,rest,e,hv,hr⟩=>by
  subst e;intro c hc;rcases Bs.1 hc with h|h
  ·exact(τ.shape hv).cell c h
  ·exact Rx hr c h
def Rk{H:HV}:∀{l:A3 Ty} {cs:A3 AW} {l':A3 Ty} {E8:A3 AW},DQ H l cs->DQ H l' E8->DQ H (l++l') (cs++E8)
 |[],_,_,_,e,h=>by subst e;simpa using h
 |_::_,_,_,_,⟨v,rest,e,hv,hr⟩,h=>by subst e;exact⟨v,_,by simp,hv,Rk hr h⟩
def NU{H:HV}:∀{l:A3 Ty} {cs:A3 AW} {i:Nat} {τ:Ty},DQ H l cs->l[i]? =some τ->CS (l.take i)+τ.n<=cs.length/\τ.ok H (Gu τ.agg ((cs.drop<|CS<|l.take i).take τ.n).toArray)
 |[],_,i,_,_,h=>by simp at h
 |σ::l,_,0,τ,⟨v,rest,e,hv,hr⟩,h=>by
  simp at h;subst h;subst e;have hs:=σ.shape hv;refine⟨by simp[hs.size],?_⟩;have:(List.take σ.n<|v.cells.toList++rest).toArray=v.cells:=by rw[<-hs.size,<-Fg,iG]
  simpa[this,<-hs.eq] using hv
 |σ::l,_,i+1,τ,⟨v,rest,e,hv,hr⟩,h=>by
  simp at h;subst e;have hs:=σ.shape hv;let⟨h1,h2⟩:=NU hr h;have hd:List.drop (σ.n+CS (List.take i l)) (v.cells.toList++rest)=List.drop (CS<|List.take i l) rest:=by rw[<-hs.size,<-Fg,Nf];simp
  refine⟨?_,?_⟩
  ·simp[hs.size];omega
  ·simp[iV,nD,hd];exact h2
def Tz{H:HV}:∀{l:A3 Ty} {cs:A3 AW} {i:Nat} {τ σ:Ty} {x:AW},DQ H l cs->l[i]? =some τ->σ.n=τ.n->σ.ok H x->DQ H (l.set i σ) (cs.take (CS<|l.take i)++x.cells.toList++cs.drop (CS (l.take i)+τ.n))
 |[],_,i,_,_,_,_,h,_,_=>by simp at h
 |ρ::l,_,0,τ,σ,x,⟨v,rest,e,hv,hr⟩,h,hn,hx=>by
  simp at h;subst h;subst e;have hs:=ρ.shape hv;have hd:List.drop ρ.n (v.cells.toList++rest)=rest:=by rw[<-hs.size,<-Fg,ZO]
  simp[List.set_cons_zero,List.take_zero,ahu,Pc,KC,hd];exact⟨x,rest,rfl,hx,hr⟩
 |ρ::l,_,i+1,τ,σ,x,⟨v,rest,e,hv,hr⟩,h,hn,hx=>by
  simp at h;subst e;have hs:=ρ.shape hv;have ih:=Tz hr h hn hx;have h1:List.take (ρ.n+CS (List.take i l)) (v.cells.toList++rest)=v.cells.toList++List.take (CS<|List.take i l) rest:=by rw[<-hs.size,<-Fg,WG];simp[Cz]
  have h2:List.drop (ρ.n+CS (List.take i l)+τ.n) (v.cells.toList++rest)=List.drop (CS (List.take i l)+τ.n) rest:=by rw[<-hs.size,<-Fg,LG,Nf];simp
  simp[List.set_cons_succ,iV,nD,h1,h2];exact⟨v,_,by simp,hv,ih⟩
def DF(l:A3 Ty):Ty where
 n:=CS l
 agg:=true
 ok:=λH v=>∃cs,v= .agg cs/\DQ H l cs.toList
 mono:=λh ⟨cs,e,k⟩=>⟨cs,e,QP h k⟩
 shape:=λ⟨cs,e,k⟩=>by subst e;exact⟨by simpa[Value.cells] using Mt k,by simpa[Value.cells] using Rx k,rfl⟩
def Ed(H:HV):A3 Ty->A3 AW->Prop
 |[],vs=>vs=[]
 |τ::l,vs=>∃v rest,vs=v::rest/\τ.ok H v/\Ed H l rest
def Yq{H H':HV}(h:HV.le H H'):∀{l:A3 Ty} {vs:A3 AW},Ed H l vs->Ed H' l vs
 |[],_,e=>e
 |_::_,_,⟨v,rest,e,hv,hr⟩=>⟨v,rest,e,Ty.mono _ h hv,Yq h hr⟩
def ab8{H:HV}:∀{l:A3 Ty} {vs:A3 AW} {i:Nat} {τ:Ty},Ed H l vs->l[i]? =some τ->∃v,vs[i]? =some v/\τ.ok H v
 |[],_,i,_,_,h=>by simp at h
 |_::_,_,0,_,⟨v,rest,e,hv,_⟩,h=>by simp at h;subst h;subst e;exact⟨v,rfl,hv⟩
 |_::_,_,i+1,_,⟨v,rest,e,_,hr⟩,h=>by simp at h;subst e;simpa using ab8 hr h
def S4{H:HV}:∀{l:A3 Ty} {vs:A3 AW},Ed H l vs->vs.length=l.length
 |[],_,e=>by subst e;rfl
 |_::_,_,⟨v,rest,e,_,hr⟩=>by subst e;simp[S4 hr]
def Jt(τ:Ty):Ty where
 n:=1
 agg:=false
 ok:=λH v=>∃b off cs E fr,v= .pointer (some ⟨b,off,none⟩)/\H b=some (.cells cs E fr)/\off+τ.n<=cs.size/\
  τ.ok H (Gu τ.agg ((cs.toList.drop off).take τ.n).toArray)
 mono:=λh ⟨b,off,cs,E,fr,e,hb,hl,k⟩=>⟨b,off,cs,E,fr,e,h _ _ hb,hl,τ.mono h k⟩
 shape:=λ⟨_,_,_,_,_,e,_⟩=>by subst e;exact Shape.one rfl
def G6(l:A3 Ty):Ty where
 n:=1
 agg:=false
 ok:=λH v=>∃ad cap,v= .slice ad l.length cap/\l.length<=cap/\
  (l≠[]->∃b off cs E fr,ad=some ⟨b,off,none⟩/\H b=some (.cells cs E fr)/\off+CS l<=cs.size/\DQ H l ((cs.toList.drop off).take<|CS l))
 mono:=λh ⟨ad,cap,e,hc,k⟩=>⟨ad,cap,e,hc,λhl=>by let⟨b,off,cs,E,fr,e1,hb,hs,ho⟩:=k hl;exact⟨b,off,cs,E,fr,e1,h _ _ hb,hs,QP h ho⟩⟩
 shape:=λ⟨_,_,e,_,_⟩=>by subst e;exact Shape.one rfl
def TEx{α:Type}(n:Nat)(agg:Bool)(p:α->Prop)(τ:α->Ty)(hn:∀a,(τ a).n=n)(ha:∀a,(τ a).agg=agg):Ty where
 n:=n
 agg:=agg
 ok:=λH v=>∃a,p a/\(τ a).ok H v
 mono:=λh ⟨a,pa,k⟩=>⟨a,pa,(τ a).mono h k⟩
 shape:=λ⟨a,_,k⟩=>by have:=(τ a).shape k;rw[hn,ha] at this;exact this
def okM(H:HV):Nat->A3 (Ty×Ty)->A3 MapEntry->Prop
 |_,[],[]=>True
 |i,(k,e)::l,x::xs=>k.ok H x.key/\e.ok H x.val/\x.born=i/\okM H (i+1) l xs
 |_,_,_=>False
def om{H H':HV}(h:HV.le H H'):∀{i:Nat} {l:A3 (Ty×Ty)} {es:A3 MapEntry},okM H i l es->okM H' i l es
 |_,[],[],_=>trivial
 |_,[],_::_,k=>k.elim
 |_,(_,_)::_,[],k=>k.elim
 |_,(k,e)::_,_::_,⟨h1,h2,h3,h4⟩=>⟨k.mono h h1,e.mono h h2,h3,om h h4⟩
def kR(L:A3 (Ty×Ty)):Ty where
 n:=1
 agg:=false
 ok:=λH v=>∃r es,v= .map (some r)/\H r=some (.map es es.size)/\okM H 0 L es.toList
 mono:=λh ⟨r,es,e,hr,k⟩=>⟨r,es,e,h _ _ hr,om h k⟩
 shape:=λ⟨_,_,e,_,_⟩=>by subst e;exact Shape.one rfl
end
section
variable{P:Program}
variable[D:DR]
variable{w:AR}{H:HV}{B:Aj P}{v:AW}{a:Act}{w':AR}{H':HV}{b:Nat}{Eb:Ap}{w0:Aj P}{H0:HV}{N d:Nat}{B':Aj P}{E:Ap}{l:A3 Ty}
structure Far(n:Nat)(own:Nat->Prop)(w:AR)(H:HV)(w':AR)(H':HV):Prop where
 size:w.heap.size<=w'.heap.size
 os:w'.os=w.os
 tape:w'.tape=w.tape
 output:w'.output=w.output
 drawn:H5 w w'
 le:HV.le H H'
 E3:∀b,b<w.heap.size->(b<n\/own b)->w'.heap[b]? =w.heap[b]?
 view:∀b,b<w.heap.size->(b<n\/own b)->H' b=H b
 sub:∀r o,H' r=some o->w'.heap[r]? =some o
def Far.imp{n m:Nat}{p q:Nat->Prop}{w w':AR}{H H':HV}(h:Far n p w H w' H')(hm:m<=n)(hq:∀b,q b->p b):Far m q w H w' H':=⟨h.size,h.os,h.tape,h.output,h.drawn,h.le,λb hb k=>h.E3 b hb<|k.imp (λx=>Jn x hm)<|hq b,λb hb k=>h.view b hb<|k.imp (λx=>Jn x hm)<|hq b,h.sub⟩
def a8:Obj->Prop
 | .deferred _=>False
 |_=>True
structure Inv where
 n:Nat
 M:Nat->Prop
 p:AR->HV->Prop
 lt:∀{w:AR} {H:HV} {b:Nat},p w H->M b->b<w.heap.size/\H b=none/\∃o,w.heap[b]? =some o/\a8 o
 step:∀{w w':AR} {H H':HV},p w H->Far n M w H w' H'->p w' H'
inductive DG where
 |val(τ:Ty)
 |buf(l:A3 Ty)
 |any
inductive Bv where
 |val(τ:Ty)
 |any(n:Nat)(agg:Bool)
 |sm(u:Nat)
 |buf(E:Ap)(sz:Nat)(l:A3 Ty)
 |map(K E:Ap)(Eb:Ap)(sz:Nat)(Ea:A3 (Ty×DG))
inductive AQ where
 |val(τ:Ty)
 |La(l:A3 Ty)
 |own(T:Ap)(τ:Ty)
 |ptr(t off:Nat)
 |opt(c:Bool)(s:AQ)
 |same(t:Nat)
 |KI(t j sz:Nat)
 |bpf(t off:Nat)
 |gone
 |buf(E:Ap)(sz:Nat)(l:A3 Ty)
 |Nz(x:AW)(E:Ap)(sz:Nat)(l:A3 Ty)
 |D8(T:Ap)(agg:Bool)(ps:A3 Bv)
 |Gs(K E:Ap)(Eb:Ap)(sz:Nat)(Ea:A3 (Ty×DG))
 |R8(Eb:Ap)(sz:Nat)(l:A3 Ty)(i:Nat)
 |inv(I:Inv)
 |KP(t:Nat)(v:AW)
 |Dv(l:Nat)(rc:Loop)
 |JQ(L:A3 (Ty×Ty))(seen:A3 Nat)
 |vec(k:AA FuncId)(us:A3 Nat)
 |Sq(t:Nat)(i:Int)
 |I8(T E:Ap)(l:A3 Ty)
 |Ez(E:Ap)(pre post:A3 AW)(l:A3 Ty)
 |win(t j n sz:Nat)
 |ND(t i sz:Nat)
def Ae(a:Act)(t:Nat):AW:=a.tmps.getD t undef
def bD(a:Act)(k:AA FuncId)(us:A3 Nat):AW:=match k with
 |none=> .agg (us.map<|Ae a).toArray
 |some f=> .func (.func f) #[] (us.map<|Ae a).toArray
def Kf(B:Aj P)(w:AR)(H:HV)(E:Ap)(sz:Nat)(l:A3 Ty)(v:AW):Prop:=∃xs,w.ownsRow 0 E sz v l.length xs/\DQ H l xs/\∀b,v.ownBlock=some b->H b=none/\B.ED b
def DG.holds(B:Aj P)(w:AR)(H:HV)(Eb:Ap)(sz:Nat)(v:AW):DG->Prop
 | .val τ=>τ.ok H v
 | .buf l=>Kf B w H Eb sz l v
 | .any=>True
def DG.owns(v:AW)(b:Nat):DG->Prop
 | .buf _=>v.ownBlock=some b
 |_=>False
def KQ(B:Aj P)(w:AR)(H:HV)(Eb:Ap)(sz:Nat):Nat->A3 (Ty×DG)->A3 MapEntry->Prop
 |_,[],[]=>True
 |i,(k,e)::l,x::xs=>k.ok H x.key/\e.holds B w H Eb sz x.val/\x.born=i/\KQ B w H Eb sz (i+1) l xs
 |_,_,_=>False
def Hp(b:Nat):A3 (Ty×DG)->A3 MapEntry->Prop
 |(_,e)::l,x::xs=>e.owns x.val b\/Hp b l xs
 |_,_=>False
def Ox:A3 (Ty×DG)->A3 MapEntry->Prop
 |(_,e)::l,x::xs=>(∀b,e.owns x.val b-> ¬Hp b l xs)/\Ox l xs
 |_,_=>True
def Qx(B:Aj P)(w:AR)(H:HV)(Eb:Ap)(sz:Nat)(Ea:A3 (Ty×DG))(v:AW):Prop:=∃r es,v= .map (some r)/\w.heap[r]? =some (.map es es.size)/\H r=none/\B.ED r/\KQ B w H Eb sz 0 Ea es.toList/\Ox Ea es.toList
def PZ(w:AR)(Ea:A3 (Ty×DG))(v:AW)(b:Nat):Prop:=v= .map (some b)\/∃r es,v= .map (some r)/\w.heap[r]? =some (.map es es.size)/\Hp b Ea es.toList
def Bv.n:Bv->Nat
 | .val τ=>τ.n
 | .any n _=>n
 |_=>1
def Bv.agg:Bv->Bool
 | .val τ=>τ.agg
 | .any _ a=>a
 |_=>false
def Bv.holds(B:Aj P)(a:Act)(w:AR)(H:HV)(v:AW):Bv->Prop
 | .val τ=>τ.ok H v
 | .any n g=>Shape n g v
 | .sm u=>v=Ae a u/\v.oneCell'=true
 | .buf E sz l=>Kf B w H E sz l v
 | .map _ _ Eb sz Ea=>Qx B w H Eb sz Ea v
def Bv.owns(w:AR)(v:AW)(b:Nat):Bv->Prop
 | .buf _ _ _=>v.ownBlock=some b
 | .map _ _ _ _ Ea=>PZ w Ea v b
 |_=>False
def J6(B:Aj P)(a:Act)(w:AR)(H:HV):A3 Bv->A3 AW->Prop
 |[],cs=>cs=[]
 |p::l,cs=>∃v rest,cs=v.cells.toList++rest/\Shape p.n p.agg v/\p.holds B a w H v/\J6 B a w H l rest
def GF(w:AR)(b:Nat):A3 Bv->A3 AW->Prop
 |[],_=>False
 |p::l,cs=>p.owns w (Gu p.agg (cs.take p.n).toArray) b\/GF w b l (cs.drop p.n)
def Ny(w:AR):A3 Bv->A3 AW->Prop
 |[],_=>True
 |p::l,cs=>(∀b,p.owns w (Gu p.agg (cs.take p.n).toArray) b-> ¬GF w b l (cs.drop p.n))/\Ny w l (cs.drop p.n)
def AQ.holds(B:Aj P)(a:Act)(w:AR)(H:HV)(v:AW):AQ->Prop
 | .val τ=>τ.ok H v
 | .La l=>∃vs,v= .tuple vs/\Ed H l vs.toList
 | .own T τ=>∃b x,v= .pointer (some ⟨b,0,none⟩)/\w.heap[b]? =some (.cells x.cells T (0,0))/\τ.ok H x/\H b=none/\B.ED b
 | .ptr t off=>∃b,Ae a t= .pointer (some ⟨b,0,none⟩)/\v= .pointer (some ⟨b,off,none⟩)
 | .opt c s=>(c=true->s.holds B a w H v)/\(c=false->v=undef)
 | .same t=>v=Ae a t
 | .KI t j sz=>∃b len cap,Ae a t= .slice (some ⟨b,0,none⟩) len cap/\v= .pointer (some ⟨b,j*sz,none⟩)
 | .bpf t off=>∃b len cap,Ae a t= .slice (some ⟨b,0,none⟩) len cap/\v= .pointer (some ⟨b,off,none⟩)
 | .gone=>True
 | .buf E sz l=>Kf B w H E sz l v
 | .Nz x E sz l=>Kf B w H E sz l x
 | .D8 T _ ps=>∃b cs,v= .pointer (some ⟨b,0,none⟩)/\w.heap[b]? =some (.cells cs T (0,0))/\H b=none/\B.ED b/\J6 B a w H ps cs.toList/\Ny w ps cs.toList/\ ¬GF w b ps cs.toList
 | .Gs _ _ Eb sz Ea=>Qx B w H Eb sz Ea v
 | .R8 Eb sz l i=>∃x,v= .tuple #[x,.int .i64 i]/\Kf B w H Eb sz l x
 | .inv I=>I.p w H/\I.n=B.lo
 | .KP t x=>Ae a t=x
 | .Dv l rc=>w.heap[l]? =some (.loop rc)/\H l=none/\B.ED l
 | .vec k us=>v=bD a k us
 | .Sq t i=>∃x,Ae a t= .tuple #[x,.int .i64 i]
 | .Ez E pre post l=>∃g c cur xs,v= .slice (some ⟨g,pre.length,none⟩) l.length c/\w.heap[g]? =some (.cells cur E (0,0))/\cur.toList=pre++(xs++post)/\DQ H l xs/\H g=none/\B.ED g
 | .win t j n sz=>∃g len cap c,Ae a t= .slice (some ⟨g,0,none⟩) len cap/\v= .slice (some ⟨g,j*sz,none⟩) n c
 | .ND t i sz=>∃g o n c,Ae a t= .slice (some ⟨g,o,none⟩) n c/\v= .pointer (some ⟨g,o+i*sz,none⟩)
 | .I8 T E l=>∃b p r,v= .pointer (some ⟨b,0,none⟩)/\w.heap[b]? =some (.cells #[p,r] T (0,0))/\(p= .pointer none\/p= .pointer (some ⟨b,0,none⟩))/\H b=none/\B.ED b/\Kf B w H E 1 l r/\r.ownBlock≠some b
 | .JQ L seen=>∃r m es sn,v= .pointer (some ⟨r,0,none⟩)/\w.heap[r]? =some (.mapIter (some m) es.size sn es.size)/\H r=none/\B.ED r/\H m=some (.map es es.size)/\okM H 0 L es.toList/\sn.toList=seen
def AQ.owns(w:AR)(v:AW)(b:Nat):AQ->Prop
 | .own _ _=>∃ad,v= .pointer (some ad)/\ad.block=b
 | .buf _ _ _=>v.ownBlock=some b
 | .Nz x _ _ _=>x.ownBlock=some b
 | .opt c s=>c=true/\s.owns w v b
 | .D8 T _ ps=>∃c,v= .pointer (some ⟨c,0,none⟩)/\(b=c\/∃cs,w.heap[c]? =some (.cells cs T (0,0))/\GF w b ps cs.toList)
 | .Gs _ _ _ _ Ea=>PZ w Ea v b
 | .R8 _ _ _ _=>∃x i,v= .tuple #[x,i]/\x.ownBlock=some b
 | .inv I=>I.M b
 | .Dv l _=>b=l
 | .JQ _ _=>∃ad,v= .pointer (some ad)/\ad.block=b
 | .Ez _ _ _ _=>v.ownBlock=some b
 | .I8 T _ _=>∃c,v= .pointer (some ⟨c,0,none⟩)/\(b=c\/∃p r,w.heap[c]? =some (.cells #[p,r] T (0,0))/\r.ownBlock=some b)
 |_=>False
def Qw:A3 Bv->A3 Nat
 |[]=>[]
 | .sm u::l=>u::Qw l
 |_::l=>Qw l
def AQ.CA:AQ->A3 Nat
 | .ptr t _=>[t]
 | .same t=>[t]
 | .KI t _ _=>[t]
 | .bpf t _=>[t]
 | .opt _ s=>s.CA
 | .D8 _ _ ps=>Qw ps
 | .KP t _=>[t]
 | .vec _ us=>us
 | .Sq t _=>[t]
 | .win t _ _ _=>[t]
 | .ND t _ _=>[t]
 |_=>[]
abbrev Ctx:=A3<|Nat×AQ
def Marks(B:Aj P)(w:AR)(H:HV):A3 Deferred->Prop
 |[]=>True
 |d::ds=>(∃D,d={target:= .collected D,args:= #[]}/\(B.rd=none->B.n<=D)/\w.heap[D]? =some (.deferred<|some [])/\H D=none/\∀e∈ds,e≠d)/\Marks B w H ds
def Marks.kept{B:Aj P}{w w':AR}{H H':HV}:∀{ds:A3 Deferred},Marks B w H ds->(∀D,({target:= .collected D,args:= #[]}:Deferred)∈ds->w.heap[D]? =some (.deferred<|some [])->H D=none->w'.heap[D]? =some (.deferred<|some [])/\H' D=none)->Marks B w' H' ds
 |[],_,_=>trivial
 |_::_,⟨⟨D,e,h1,h2,h3,h4⟩,r⟩,k=>⟨⟨D,e,h1,(k D (by simp[e]) h2 h3).1,(k D (by simp[e]) h2 h3).2,h4⟩,r.kept λD hD=>k D<|C2 _ hD⟩
structure Sat(w0:Aj P)(H0:HV)(N:Nat)(Γ:Ctx)(a:Act)(w:AR)(H:HV):Prop where
 nd:Marks w0 w H (a.defers++w0.ds)
 sz:a.tmps.size=N
 below:Kept w0 w
 Fe:w0.J3=false->∀r,r<w0.n-> ¬w0.X r->H r=H0 r
 sub:∀r o,H r=some o->w.heap[r]? =some o
 holds:∀p∈Γ,p.2.holds w0 a w H<|Ae a p.1
 sep:∀p∈Γ,∀q∈Γ,p.1≠q.1->∀b,p.2.owns w (Ae a p.1) b-> ¬q.2.owns w (Ae a q.1) b
 gl:LR P H
def Sat.weaken{Γ An:Ctx}(h:Sat w0 H0 N Γ a w H)(hs:∀p∈An,p∈Γ):Sat w0 H0 N An a w H:={h with holds:=λp hp=>h.holds p<|hs p hp,sep:=λp hp q hq=>h.sep p (hs p hp) q (hs q hq)}
theorem HO(sub:∀r o,H r=some o->w.heap[r]? =some o){r:Nat}{o:Obj}(h:H r=some o):r<w.heap.size:=by grind
structure Ext(w:AR)(H:HV)(w':AR)(H':HV):Prop where
 below:FV w.heap.size w w'
 le:HV.le H H'
 Fe:∀r,r<w.heap.size->H' r=H r
 sub:∀r o,H' r=some o->w'.heap[r]? =some o
def Ext.refl{w:AR}{H:HV}(sub:∀r o,H r=some o->w.heap[r]? =some o):Ext w H w H:=⟨FV.refl _ _,HV.le.refl _,λ_ _=>rfl,sub⟩
def Ext.Lf(h:Ext w H w' H')(n:Nat)(p:Nat->Prop):Far n p w H w' H':=⟨h.below.size,h.below.os,h.below.tape,h.below.output,h.below.drawn,h.le,λb hb _=>h.below.block b hb,λb hb _=>h.Fe b hb,h.sub⟩
def Ext.grown(sub:∀r o,H r=some o->w.heap[r]? =some o)(hb:FV w.heap.size w w'):Ext w H w' (grow H w w'):=by
 refine⟨hb,?_,?_,?_⟩
 ·intro r o h;have:=HO sub h;simp[grow,this,h]
 ·intro r h;simp[grow,h]
 ·intro r o h;by_cases hr:r<w.heap.size
  ·simp[grow,hr] at h;rw[hb.block r hr];exact sub r o h
  ·simpa[grow,hr] using h
def Ext.alloc{w:AR}{H:HV}(sub:∀r o,H r=some o->w.heap[r]? =some o)(o:Obj):Ext w H (w.alloc o) H:=by refine⟨FV.alloc _,HV.le.refl _,λ_ _=>rfl,?_⟩;intro r x h;have:=HO sub h;rw[heap_alloc_old w o this];exact sub r x h
def bT(B:Aj P)(w:AR)(H:HV)(b:Nat):Prop:=b<w.heap.size/\B.ED b/\H b=none/\∃o,w.heap[b]? =some o/\a8 o
def lt_of_heap{o:Obj}(h:w.heap[b]? =some o):b<w.heap.size:=(SV.1 h).1
def IB{sz:Nat}(h:Kf B w H E sz l v)(hb:v.ownBlock=some b):bT B w H b:=by
 let⟨xs,hr,ho,hn⟩:=h;refine⟨(hr.lt b hb).2,(hn b hb).2,(hn b hb).1,?_⟩;obtain⟨_,(⟨e,_⟩|⟨g,cap,cur,e,_,hc,_⟩)⟩:=hr
 ·subst e;simp[Value.ownBlock] at hb
 ·subst e;simp[Value.ownBlock] at hb;subst hb;exact⟨_,hc,trivial⟩
def xi{B:Aj P}{w:AR}{H:HV}{Eb:Ap}{sz:Nat}{b:Nat}:∀{i:Nat} {l:A3 (Ty×DG)} {es:A3 MapEntry},KQ B w H Eb sz i l es->Hp b l es->bT B w H b
 |_,[],_,_,h=>by simp[Hp] at h
 |_,(_,_)::_,[],_,h=>by simp[Hp] at h
 |i,(k,e)::l,x::xs,⟨_,he,_,hr⟩,h=>by
  rcases h with h|h
  ·cases e with
   |val τ=>exact h.elim
   |any=>exact h.elim
   |buf l=>exact IB he h
  ·exact xi hr h
def S7{sz:Nat}{Ea:A3 (Ty×DG)}(h:Qx B w H Eb sz Ea v)(hb:PZ w Ea v b):bT B w H b:=by
 let⟨r,es,e,hr,hn,hm,ho,hs⟩:=h;subst e;rcases hb with hb|⟨r',I7,e',Kw,hb⟩
 ·cases hb;exact⟨lt_of_heap hr,hm,hn,_,hr,trivial⟩
 ·cases e';rw[hr] at Kw;cases Kw;exact xi ho hb
def akN:∀{p:Bv},p.holds B a w H v->p.owns w v b->bT B w H b
 | .val _,_,h=>h.elim
 | .any _ _,_,h=>h.elim
 | .sm _,_,h=>h.elim
 | .buf _ _ _,k,h=>IB k h
 | .map _ _ _ _ _,k,h=>S7 k h
theorem QQ{p:Bv}{rest:A3 AW}(h:Shape p.n p.agg v):Gu p.agg ((v.cells.toList++rest).take p.n).toArray=v/\(v.cells.toList++rest).drop p.n=rest:=by
 have hs:=h.size;constructor
 ·have:(List.take p.n<|v.cells.toList++rest).toArray=v.cells:=by rw[<-hs,<-Fg,iG]
  rw[this];exact h.eq.symm
 ·grind
def QK{B:Aj P}{a:Act}{w:AR}{H:HV}{b:Nat}:∀{ps:A3 Bv} {cs:A3 AW},J6 B a w H ps cs->GF w b ps cs->bT B w H b
 |[],_,_,h=>h.elim
 |p::l,_,⟨v,rest,e,CT,hv,hr⟩,h=>by
  subst e;let⟨e1,e2⟩:=QQ (rest:=rest) CT;rcases h with h|h
  ·rw[e1] at h;exact akN hv h
  ·rw[e2] at h;exact QK hr h
def AQ.JH{B:Aj P}{a:Act}{w:AR}{H:HV}{v:AW}{b:Nat}:∀{s:AQ},s.holds B a w H v->s.owns w v b->b<w.heap.size/\H b=none/\∃o,w.heap[b]? =some o/\a8 o
 | .val _,_,h=>h.elim
 | .La _,_,h=>h.elim
 | .ptr _ _,_,h=>h.elim
 | .same _,_,h=>h.elim
 | .KI _ _ _,_,h=>h.elim
 | .bpf _ _,_,h=>h.elim
 | .gone,_,h=>h.elim
 | .KP _ _,_,h=>h.elim
 | .vec _ _,_,h=>h.elim
 | .Sq _ _,_,h=>h.elim
 | .own T τ,⟨c,x,e,hb,hx,hn,hB⟩,⟨ad,e',h⟩=>by subst e;cases e';cases h;exact⟨lt_of_heap hb,hn,_,hb,trivial⟩
 | .buf _ _ _,h,k=>⟨(IB h k).1,(IB h k).2.2⟩
 | .Nz _ _ _ _,h,k=>⟨(IB h k).1,(IB h k).2.2⟩
 | .D8 T _ ps,⟨c,cs,e,hb,hn,hB,ho,hs,hx⟩,⟨c',e',h⟩=>by
  subst e;cases e';rcases h with h|⟨E8,Ba,h⟩
  ·subst h;exact⟨lt_of_heap hb,hn,_,hb,trivial⟩
  ·rw[hb] at Ba;cases Ba;exact⟨(QK ho h).1,(QK ho h).2.2⟩
 | .Gs _ _ _ _ _,h,k=>⟨(S7 h k).1,(S7 h k).2.2⟩
 | .R8 _ _ _ _,⟨x,e,h⟩,⟨x',i',e',k⟩=>by rw[e] at e';cases e';exact⟨(IB h k).1,(IB h k).2.2⟩
 | .opt c s,h,⟨hc,k⟩=>AQ.JH (s:=s) (h.1 hc) k
 | .inv I,⟨h,_⟩,k=>I.lt h k
 | .Dv l _,⟨h,h2,h3⟩,k=>by have k:b=l:=k;subst k;exact⟨lt_of_heap h,h2,_,h,trivial⟩
 | .JQ _ _,⟨r,m,es,sn,e,h1,h2,_⟩,⟨ad,e',h⟩=>by subst e;cases e';cases h;exact⟨lt_of_heap h1,h2,_,h1,trivial⟩
 | .win _ _ _ _,_,h=>h.elim
 | .ND _ _ _,_,h=>h.elim
 | .Ez _ _ _ _,⟨g,c,cur,xs,e,hb,_,_,hn,_⟩,h=>by subst e;cases h;exact⟨lt_of_heap hb,hn,_,hb,trivial⟩
 | .I8 _ _ _,⟨c,p,r,e,hb,_,hn,_,ho,_⟩,⟨c',e',h⟩=>by
  subst e;cases e';rcases h with h|⟨p',r',Ba,h⟩
  ·subst h;exact⟨lt_of_heap hb,hn,_,hb,trivial⟩
  ·have e2:=hb.symm.trans Ba;simp at e2;obtain⟨rfl,rfl⟩:=e2;exact⟨(IB ho h).1,(IB ho h).2.2⟩
def W0{sz:Nat}(h:Kf B w H E sz l v)(hle:HV.le H H')
 (hk:∀b,v.ownBlock=some b->w'.heap[b]? =w.heap[b]? /\H' b=H b):Kf B w' H' E sz l v:=by
 let⟨xs,⟨hl,hr⟩,ho,hn⟩:=h;refine⟨xs,⟨hl,?_⟩,QP hle ho,λb hb=>⟨by rw[(hk b hb).2];exact(hn b hb).1,(hn b hb).2⟩⟩;rcases hr with hr|⟨g,cap,cur,e,h1,hc,h2⟩
 ·exact .inl hr
 ·refine .inr ⟨g,cap,cur,e,h1,?_,h2⟩;rw[(hk g (by rw[e];rfl)).1];exact hc
def qB{B:Aj P}{w w':AR}{H H':HV}{Eb:Ap}{sz:Nat}(hle:HV.le H H'):∀{i:Nat} {l:A3 (Ty×DG)} {es:A3 MapEntry},KQ B w H Eb sz i l es->(∀b,Hp b l es->w'.heap[b]? =w.heap[b]? /\H' b=H b)->KQ B w' H' Eb sz i l es
 |_,[],[],_,_=>trivial
 |_,[],_::_,h,_=>h.elim
 |_,(_,_)::_,[],h,_=>h.elim
 |i,(k,e)::l,x::xs,⟨hk,he,hb,hr⟩,hx=>by
  refine⟨k.mono hle hk,?_,hb,qB hle hr λb h=>hx b<| .inr h⟩;cases e with
  |val τ=>exact τ.mono hle he
  |any=>trivial
  |buf l=>exact W0 he hle λb h=>hx b<| .inl h
theorem aa4{sz:Nat}{Ea:A3 (Ty×DG)}(h:Qx B w H Eb sz Ea v)(hle:HV.le H H')
 (hk:∀b,PZ w Ea v b->w'.heap[b]? =w.heap[b]? /\H' b=H b):Qx B w' H' Eb sz Ea v/\∀b,PZ w' Ea v b↔PZ w Ea v b:=by
 let⟨r,es,e,hr,hn,hm,ho,hs⟩:=h;subst e;have k0:=hk r<| .inl rfl
 have Kw:w'.heap[r]? =some (.map es es.size):=by grind
 refine⟨⟨r,es,rfl,Kw,by rw[k0.2];exact hn,hm,qB hle ho λb h=>hk b<| .inr ⟨r,es,rfl,hr,h⟩,hs⟩,λb=>?_⟩;constructor
 ·rintro(h|⟨r1,es1,e1,h1,h2⟩)
  ·exact .inl h
  ·cases e1;rw[Kw] at h1;cases h1;exact .inr ⟨r,es,rfl,hr,h2⟩
 ·rintro(h|⟨r1,es1,e1,h1,h2⟩)
  ·exact .inl h
  ·cases e1;rw[hr] at h1;cases h1;exact .inr ⟨r,es,rfl,Kw,h2⟩
def akO(hle:HV.le H H'):∀{p:Bv},p.holds B a w H v->(∀b,p.owns w v b->w'.heap[b]? =w.heap[b]? /\H' b=H b)->p.holds B a w' H' v/\∀b,p.owns w' v b↔p.owns w v b
 | .val τ,h,_=>⟨τ.mono hle h,λ_=>Iff.rfl⟩
 | .any _ _,h,_=>⟨h,λ_=>Iff.rfl⟩
 | .sm _,h,_=>⟨h,λ_=>Iff.rfl⟩
 | .buf _ _ _,h,k=>⟨W0 h hle k,λ_=>Iff.rfl⟩
 | .map _ _ _ _ _,h,k=>aa4 h hle k
def gk{B:Aj P}{a:Act}{w w':AR}{H H':HV}(hle:HV.le H H'):∀{ps:A3 Bv} {cs:A3 AW},J6 B a w H ps cs->(∀b,GF w b ps cs->w'.heap[b]? =w.heap[b]? /\H' b=H b)->J6 B a w' H' ps cs/\(∀b,GF w' b ps cs↔GF w b ps cs)/\(Ny w ps cs->Ny w' ps cs)
 |[],_,h,_=>⟨h,λ_=>Iff.rfl,λh=>h⟩
 |p::l,_,⟨v,rest,e,CT,hv,hr⟩,k=>by
  subst e;let⟨e1,e2⟩:=QQ (rest:=rest) CT;simp only[GF,Ny,e1,e2] at k⊢;let⟨h1,h2⟩:=akO hle hv λb h=>k b<| .inl h
  let⟨h3,h4,h5⟩:=gk hle hr λb h=>k b<| .inr h
  refine⟨⟨v,rest,rfl,CT,h1,h3⟩,λb=>or_congr (h2 b)<|h4 b,λ⟨a1,a2⟩=>⟨λb hb=>?_,h5 a2⟩⟩;rw[h4];exact a1 b<|(h2 b).1 hb
def AQ.Ey:AQ->Bool
 | .inv _=>true
 | .opt _ s=>s.Ey
 |_=>false
theorem AQ.Ve{B:Aj P}{a:Act}{w w':AR}{H H':HV}{v:AW}{n:Nat}:∀{s:AQ},s.holds B a w H v->(s.Ey=true->n=B.lo)->Far n (λb=>s.owns w v b) w H w' H'->s.holds B a w' H' v/\∀b,s.owns w' v b↔s.owns w v b
 | .val τ,h,_,F=>⟨τ.mono F.le h,λ_=>Iff.rfl⟩
 | .La _,⟨vs,e,k⟩,_,F=>⟨⟨vs,e,Yq F.le k⟩,λ_=>Iff.rfl⟩
 | .own T τ,⟨b,x,e,hb,hx,hn,hB⟩,_,F=>by subst e;have hlt:=lt_of_heap hb;have ho:(AQ.own T τ).owns w (.pointer<|some ⟨b,0,none⟩) b:=⟨_,rfl,rfl⟩;exact⟨⟨b,x,rfl,by rw[F.E3 b hlt<| .inr ho];exact hb,τ.mono F.le hx,by rw[F.view b hlt<| .inr ho];exact hn,hB⟩,λ_=>Iff.rfl⟩
 | .ptr _ _,h,_,_=>⟨h,λ_=>Iff.rfl⟩
 | .opt c s,h,hi,F=>by
  cases c with
  |false=>exact⟨⟨(λe=>by cases e),h.2⟩,λb=>by simp[AQ.owns]⟩
  |true=>
   let⟨h1,h2⟩:=Ve (s:=s) (h.1 rfl) hi<|F.imp (BM _) λb hb=>⟨rfl,hb⟩
   exact⟨⟨λ_=>h1,h.2⟩,λb=>by simp[AQ.owns,h2]⟩
 | .same _,h,_,_=>⟨h,λ_=>Iff.rfl⟩
 | .KI _ _ _,h,_,_=>⟨h,λ_=>Iff.rfl⟩
 | .bpf _ _,h,_,_=>⟨h,λ_=>Iff.rfl⟩
 | .gone,h,_,_=>⟨h,λ_=>Iff.rfl⟩
 | .KP _ _,h,_,_=>⟨h,λ_=>Iff.rfl⟩
 | .vec _ _,h,_,_=>⟨h,λ_=>Iff.rfl⟩
 | .Sq _ _,h,_,_=>⟨h,λ_=>Iff.rfl⟩
 | .buf _ _ _,h,_,F=>⟨W0 h F.le λb hb=>⟨F.E3 b (IB h hb).1<| .inr hb,F.view b (IB h hb).1<| .inr hb⟩,λ_=>Iff.rfl⟩
 | .Nz _ _ _ _,h,_,F=>⟨W0 h F.le λb hb=>⟨F.E3 b (IB h hb).1<| .inr hb,F.view b (IB h hb).1<| .inr hb⟩,λ_=>Iff.rfl⟩
 | .D8 T g ps,⟨c,cs,e,hb,hn,hB,ho,hs,hx⟩,_,F=>by
  subst e;have hlt:=lt_of_heap hb;have oc:(AQ.D8 T g ps).owns w (.pointer<|some ⟨c,0,none⟩) c:=⟨c,rfl,.inl rfl⟩;have op:∀b,GF w b ps cs.toList->(AQ.D8 T g ps).owns w (.pointer<|some ⟨c,0,none⟩) b:=λb h=>⟨c,rfl,.inr ⟨cs,hb,h⟩⟩
  have Ba:w'.heap[c]? =some (.cells cs T (0,0)):=by rw[F.E3 c hlt<| .inr oc];exact hb
  let⟨h1,h2,h3⟩:=gk F.le ho λb h=>⟨F.E3 b (QK ho h).1<| .inr<|op b h,F.view b (QK ho h).1<| .inr<|op b h⟩
  refine⟨⟨c,cs,rfl,Ba,by rw[F.view c hlt<| .inr oc];exact hn,hB,h1,h3 hs,by rw[h2];exact hx⟩,λb=>?_⟩;constructor
  ·rintro⟨c',e',h⟩;cases e';rcases h with h|⟨E8,FI,h⟩
   ·grind
   ·grind
  ·rintro⟨c',e',h⟩;cases e';rcases h with h|⟨E8,FI,h⟩
   ·exact⟨c,rfl,.inl h⟩
   ·rw[hb] at FI;cases FI;exact⟨c,rfl,.inr ⟨cs,Ba,(h2 b).2 h⟩⟩
 | .Gs _ _ _ _ _,h,_,F=>aa4 h F.le λb hb=>⟨F.E3 b (S7 h hb).1<| .inr hb,F.view b (S7 h hb).1<| .inr hb⟩
 | .R8 _ _ _ _,⟨x,e,h⟩,_,F=>by subst e;exact⟨⟨x,rfl,W0 h F.le λb hb=>⟨F.E3 b (IB h hb).1<| .inr ⟨x,_,rfl,hb⟩,F.view b (IB h hb).1<| .inr ⟨x,_,rfl,hb⟩⟩⟩,λ_=>Iff.rfl⟩
 | .Dv l rc,⟨h,h2,h3⟩,_,F=>⟨⟨by rw[F.E3 l (lt_of_heap h)<| .inr rfl];exact h,by rw[F.view l (lt_of_heap h)<| .inr rfl];exact h2,h3⟩,λ_=>Iff.rfl⟩
 | .JQ L seen,⟨r,m,es,sn,e,h1,h2,h3,h4,h5,h6⟩,_,F=>by subst e;have ho:(AQ.JQ L seen).owns w (.pointer<|some ⟨r,0,none⟩) r:=⟨_,rfl,rfl⟩;exact⟨⟨r,m,es,sn,rfl,by rw[F.E3 r (lt_of_heap h1)<| .inr ho];exact h1,by rw[F.view r (lt_of_heap h1)<| .inr ho];exact h2,h3,F.le _ _ h4,om F.le h5,h6⟩,λ_=>Iff.rfl⟩
 | .win _ _ _ _,h,_,_=>⟨h,λ_=>Iff.rfl⟩
 | .ND _ _ _,h,_,_=>⟨h,λ_=>Iff.rfl⟩
 | .Ez E pre post l,⟨g,c,cur,xs,e,hb,hc,ho,hn,hB⟩,_,F=>by subst e;have oc:(AQ.Ez E pre post l).owns w (.slice (some ⟨g,pre.length,none⟩) l.length c) g:=rfl;exact⟨⟨g,c,cur,xs,rfl,by rw[F.E3 g (lt_of_heap hb)<| .inr oc];exact hb,hc,QP F.le ho,by rw[F.view g (lt_of_heap hb)<| .inr oc];exact hn,hB⟩,λ_=>Iff.rfl⟩
 | .I8 T E l,⟨c,p,r,e,hb,hp,hn,hB,ho,hx⟩,_,F=>by
  subst e;have hlt:=lt_of_heap hb;have oc:(AQ.I8 T E l).owns w (.pointer<|some ⟨c,0,none⟩) c:=⟨c,rfl,.inl rfl⟩;have op:∀b,r.ownBlock=some b->(AQ.I8 T E l).owns w (.pointer<|some ⟨c,0,none⟩) b:=λb h=>⟨c,rfl,.inr ⟨p,r,hb,h⟩⟩
  have Ba:w'.heap[c]? =some (.cells #[p,r] T (0,0)):=by rw[F.E3 c hlt<| .inr oc];exact hb
  have h1:=W0 ho F.le λb h=>⟨F.E3 b (IB ho h).1<| .inr<|op b h,F.view b (IB ho h).1<| .inr<|op b h⟩
  refine⟨⟨c,p,r,rfl,Ba,hp,by rw[F.view c hlt<| .inr oc];exact hn,hB,h1,hx⟩,λb=>?_⟩;constructor
  ·rintro⟨c',e',h⟩;cases e';rcases h with h|⟨p',r',FI,h⟩
   ·grind
   ·grind
  ·rintro⟨c',e',h⟩;cases e';rcases h with h|⟨p',r',FI,h⟩
   ·exact⟨c,rfl,.inl h⟩
   ·exact⟨c,rfl,.inr ⟨p',r',by rw[Ba,<-hb];exact FI,h⟩⟩
 | .inv I,⟨h,e⟩,hi,F=>by
  have:n=I.n:=by rw[hi rfl,e]
  exact⟨⟨I.step h<|this▸F,e⟩,λ_=>Iff.rfl⟩
def AQ.Yf{s:AQ}(h:s.holds B a w H v)(F:Far B.lo (λb=>s.owns w v b) w H w' H'):s.holds B a w' H' v/\∀b,s.owns w' v b↔s.owns w v b:=AQ.Ve h (λ_=>rfl) F
def AQ.aj4(he:Ext w H w' H'){s:AQ}(h:s.holds B a w H v):s.holds B a w' H' v:=(AQ.Yf h<|he.Lf _ _).1
def AQ.fj(he:Ext w H w' H'){s:AQ}(h:s.holds B a w H v)(b:Nat):s.owns w' v b↔s.owns w v b:=(AQ.Yf h<|he.Lf _ _).2 b
def PL{t:Nat}(h:d≠t):Ae (a.put (some d) v) t=Ae a t:=by simp[Ae,Act.put,Array.getElem?_setIfInBounds_ne h]
def VY(h:d<a.tmps.size):Ae (a.put (some d) v) d=v:=by simp[Ae,Act.put,h]
def Tx{B:Aj P}{a a':Act}{w:AR}{H:HV}:∀{ps:A3 Bv} {cs:A3 AW},(∀t∈Qw ps,Ae a' t=Ae a t)->J6 B a w H ps cs->J6 B a' w H ps cs
 |[],_,_,h=>h
 |p::l,_,e,⟨v,rest,e1,CT,hv,hr⟩=>by
  cases p with
  |sm u=>exact⟨v,rest,e1,CT,⟨by rw[e u (by simp[Qw])];exact hv.1,hv.2⟩,Tx (λt ht=>e t (by simp[Qw,ht])) hr⟩
  |val _=>exact⟨v,rest,e1,CT,hv,Tx e hr⟩
  |any _ _=>exact⟨v,rest,e1,CT,hv,Tx e hr⟩
  |buf _ _ _=>exact⟨v,rest,e1,CT,hv,Tx e hr⟩
  |map _ _ _ _ _=>exact⟨v,rest,e1,CT,hv,Tx e hr⟩
def AQ.PQ{B:Aj P}{a a':Act}{w:AR}{H:HV}{v:AW}:∀{s:AQ},(∀t∈s.CA,Ae a' t=Ae a t)->s.holds B a w H v->s.holds B a' w H v
 | .val _,_,h=>h
 | .La _,_,h=>h
 | .own _ _,_,h=>h
 | .ptr t off,e,⟨b,h1,h2⟩=>⟨b,by rw[e t (by simp[AQ.CA])];exact h1,h2⟩
 | .opt c s,e,h=>⟨λhc=>PQ (s:=s) e<|h.1 hc,h.2⟩
 | .same t,e,h=>by show v=_;rw[e t (by simp[AQ.CA])];exact h
 | .KI t _ _,e,⟨b,len,cap,h1,h2⟩=>⟨b,len,cap,by rw[e t (by simp[AQ.CA])];exact h1,h2⟩
 | .bpf t _,e,⟨b,len,cap,h1,h2⟩=>⟨b,len,cap,by rw[e t (by simp[AQ.CA])];exact h1,h2⟩
 | .gone,_,h=>h
 | .buf _ _ _,_,h=>h
 | .Nz _ _ _ _,_,h=>h
 | .D8 _ _ _,e,⟨c,cs,h1,h2,h3,h4,h5,h6⟩=>⟨c,cs,h1,h2,h3,h4,Tx e h5,h6⟩
 | .Gs _ _ _ _ _,_,h=>h
 | .R8 _ _ _ _,_,h=>h
 | .inv _,_,h=>h
 | .Sq t i,e,⟨x,h⟩=>⟨x,by rw[e t (by simp[AQ.CA])];exact h⟩
 | .vec k us,e,h=>by have:us.map (Ae a')=us.map (Ae a):=iU e;show v=bD a' k us;rw[show bD a' k us=bD a k us by simp[bD,this]];exact h
 | .KP t _,e,h=>by show Ae a' t=_;rw[e t (by simp[AQ.CA])];exact h
 | .Dv _ _,_,h=>h
 | .JQ _ _,_,h=>h
 | .I8 _ _ _,_,h=>h
 | .Ez _ _ _ _,_,h=>h
 | .win t _ _ _,e,⟨g,len,cap,c,h1,h2⟩=>⟨g,len,cap,c,by rw[e t (by simp[AQ.CA])];exact h1,h2⟩
 | .ND t _ _,e,⟨g,o,n,c,h1,h2⟩=>⟨g,o,n,c,by rw[e t (by simp[AQ.CA])];exact h1,h2⟩
def Jp(d:Nat)(Γ:Ctx):Bool:=Γ.all λp=>p.1 !=d&& !p.2.CA.contains d
def YP{A:Ctx}(h:Jp d A=true):∀p∈A,p.1≠d/\d∉p.2.CA:=by intro p hp;have:=Dk.1 h p hp;simpa using this
def put_defers{d:AA Tmp}:(a.put d v).defers=a.defers:=by cases d<;>rfl
theorem vo{Γ:Ctx}(h:Sat w0 H0 N Γ a w H){s:AQ}(hd:d<N)(hf:Jp d Γ=true)(hl:d∉s.CA)
 (hs:s.holds w0 a w H v)(hfr:∀b,s.owns w v b->∀q∈Γ,¬q.2.owns w (Ae a q.1) b):Sat w0 H0 N ((d,s)::Γ) (a.put (some d) v) w H:=by
 have hd':d<a.tmps.size:=h.sz▸hd;have KF:∀p∈Γ,d≠p.1/\d∉p.2.CA:=λp hp=>⟨λe=>(YP hf p hp).1 e.symm,(YP hf p hp).2⟩
 refine⟨by rw[put_defers];exact h.nd,by simp[Act.put,h.sz],h.below,h.Fe,h.sub,?_,?_,h.gl⟩
 ·intro p hp;rcases Ao.1 hp with e|hp
  ·subst e;simp[VY hd'];exact AQ.PQ (λt ht=>PL<|λe=>hl<|e▸ht) hs
  ·let⟨h1,h2⟩:=KF p hp;rw[PL h1];exact AQ.PQ (λt ht=>PL<|λe=>h2<|e▸ht)<|h.holds p hp
 ·intro p hp q hq hne b hb Ba;rcases Ao.1 hp with e|hp<;>rcases Ao.1 hq with e'|hq
  ·grind
  ·subst e;simp[VY hd'] at hb;rw[PL (KF q hq).1] at Ba;exact hfr b hb q hq Ba
  ·subst e';simp[VY hd'] at Ba;rw[PL (KF p hp).1] at hb;exact hfr b Ba p hp hb
  ·rw[PL (KF p hp).1] at hb;rw[PL (KF q hq).1] at Ba;exact h.sep p hp q hq hne b hb Ba
def fY{Γ:Ctx}(h:Sat w0 H0 N Γ a w H)(he:Ext w H w' H'):Sat w0 H0 N Γ a w' H':=by
 refine⟨h.nd.kept λD _ h1 h2=>⟨by rw[he.below.block D<|lt_of_heap h1];exact h1,by rw[he.Fe D<|lt_of_heap h1];exact h2⟩,h.sz,h.below.step he.below,λhv r hr hx=>?_,he.sub,?_,?_,h.gl.mono he.le⟩
 ·rw[he.Fe r<|Jn hr h.below.size,h.Fe hv r hr hx]
 ·intro p hp;exact AQ.aj4 he<|h.holds p hp
 ·intro p hp q hq hne b hb Ba;exact h.sep p hp q hq hne b ((AQ.fj he (h.holds p hp) b).1 hb)<|(AQ.fj he (h.holds q hq) b).1 Ba
def S2{Γ:Ctx}(h:Sat w0 H0 N Γ a w H)(he:Ext w H w' H')
 {s:AQ}(hd:d<N)(hf:Jp d Γ=true)(hl:d∉s.CA)(hs:s.holds w0 a w' H' v)(hfr:∀b,s.owns w' v b->w.heap.size<=b):Sat w0 H0 N ((d,s)::Γ) (a.put (some d) v) w' H':=
 vo (fY h he) hd hf hl hs λb hb q hq Ba=>by have h1:=hfr b hb;have h2:=(AQ.JH (h.holds q hq)<|(AQ.fj he (h.holds q hq) b).1 Ba).1;omega
def AQ.free:AQ->Bool
 | .own _ _=>false
 | .buf _ _ _=>false
 | .Nz _ _ _ _=>false
 | .opt _ s=>s.free
 | .D8 _ _ _=>false
 | .Gs _ _ _ _ _=>false
 | .R8 _ _ _ _=>false
 | .inv _=>false
 | .Dv _ _=>false
 | .JQ _ _=>false
 | .I8 _ _ _=>false
 | .Ez _ _ _ _=>false
 |_=>true
def AQ.free_spec{w:AR}{v:AW}{b:Nat}:∀{s:AQ},s.free=true-> ¬s.owns w v b
 | .val _,_,h=>h
 | .La _,_,h=>h
 | .ptr _ _,_,h=>h
 | .same _,_,h=>h
 | .KI _ _ _,_,h=>h
 | .bpf _ _,_,h=>h
 | .gone,_,h=>h
 | .KP _ _,_,h=>h
 | .vec _ _,_,h=>h
 | .Sq _ _,_,h=>h
 | .opt c s,e,h=>AQ.free_spec (s:=s) e h.2
 | .own _ _,e,_=>by cases e
 | .buf _ _ _,e,_=>by cases e
 | .Nz _ _ _ _,e,_=>by cases e
 | .D8 _ _ _,e,_=>by cases e
 | .Gs _ _ _ _ _,e,_=>by cases e
 | .R8 _ _ _ _,e,_=>by cases e
 | .inv _,e,_=>by cases e
 | .Dv _ _,e,_=>by cases e
 | .JQ _ _,e,_=>by cases e
 | .I8 _ _ _,e,_=>by cases e
 | .Ez _ _ _ _,e,_=>by cases e
 | .win _ _ _ _,_,h=>h
 | .ND _ _ _,_,h=>h
theorem Vp{Γ An:Ctx}{ds:A3 Deferred}(hs:Sat w0 H0 N Γ a w H)(hk:Kept w0 w')(hdr:H5 w w')
 (hold:w0.J3=false->∀r,r<w0.n-> ¬w0.X r->H' r=H r)(hsz:w.heap.size<=w'.heap.size)(hle:HV.le H H')(BE:∀r o,H' r=some o->w'.heap[r]? =some o)
 (Fl:(∃p∈An,p.2.Ey=true)->∀b,b<w.heap.size->b<w0.lo->w'.heap[b]? =w.heap[b]? /\H' b=H b)
 (hp:∀p∈An,p∈Γ/\∀b,p.2.owns w (Ae a p.1) b->w'.heap[b]? =w.heap[b]? /\H' b=H b)(hm:Marks w0 w' H' (ds++w0.ds)):Sat w0 H0 N An {a with defers:=ds} w' H':=by
 have Lf:∀p∈An,Far (if p.2.Ey then w0.lo else 0) (λb=>p.2.owns w (Ae a p.1) b) w H w' H':=λp h=>by
  have key:∀b,b<w.heap.size->(b<(if p.2.Ey then w0.lo else 0)\/p.2.owns w (Ae a p.1) b)->w'.heap[b]? =w.heap[b]? /\H' b=H b:=λb hb h1=>by
   rcases h1 with h1|h1
   ·cases hi:p.2.Ey with
    |true=>rw[hi,if_pos rfl] at h1;exact Fl ⟨p,h,hi⟩ b hb h1
    |false=>rw[hi] at h1;simp at h1
   ·grind
  exact⟨hsz,hk.os.trans hs.below.os.symm,hk.tape.trans hs.below.tape.symm,hk.output.trans hs.below.output.symm,hdr,hle,λb hb h1=>(key b hb h1).1,λb hb h1=>(key b hb h1).2,BE⟩
 have hh:∀p∈An,p.2.holds w0 a w' H' (Ae a p.1)/\∀b,p.2.owns w' (Ae a p.1) b↔p.2.owns w (Ae a p.1) b:=λp h=>AQ.Ve (hs.holds p (hp p h).1) (λhi=>by rw[hi];rfl)<|Lf p h
 refine⟨hm,hs.sz,hk,λhv r hr hx=>(hold hv r hr hx).trans<|hs.Fe hv r hr hx,BE,?_,?_,hs.gl.mono hle⟩
 ·exact λp h=>AQ.PQ (a:=a) (λ_ _=>rfl) (hh p h).1
 ·exact λp h q h' hne b hb Ba=>hs.sep p (hp p h).1 q (hp q h').1 hne b (((hh p h).2 b).1 hb)<|((hh q h').2 b).1 Ba
theorem Vq{sz:Nat}(h:Kf B w H E sz l v)(hm:∀b,v.ownBlock=some b->B'.ED b):Kf B' w H E sz l v:=by grind [Kf,Aj.ED]
def yi{B B':Aj P}{w:AR}{H:HV}{Eb:Ap}{sz:Nat}:∀{i:Nat} {l:A3 (Ty×DG)} {es:A3 MapEntry},KQ B w H Eb sz i l es->(∀b,Hp b l es->B'.ED b)->KQ B' w H Eb sz i l es
 |_,[],[],_,_=>trivial
 |_,[],_::_,h,_=>h.elim
 |_,(_,_)::_,[],h,_=>h.elim
 |i,(k,e)::l,x::xs,⟨hk,he,hb,hr⟩,hx=>by
  refine⟨hk,?_,hb,yi hr λb h=>hx b<| .inr h⟩;cases e with
  |val τ=>exact he
  |any=>trivial
  |buf l=>exact Vq he λb h=>hx b<| .inl h
def yt{sz:Nat}{Ea:A3 (Ty×DG)}(h:Qx B w H Eb sz Ea v)(hm:∀b,PZ w Ea v b->B'.ED b):Qx B' w H Eb sz Ea v:=by let⟨r,es,e,hr,hn,_,ho,hs⟩:=h;subst e;exact⟨r,es,rfl,hr,hn,hm r<| .inl rfl,yi ho λb h=>hm b<| .inr ⟨r,es,rfl,hr,h⟩,hs⟩
def yg{B B':Aj P}{a:Act}{w:AR}{H:HV}:∀{ps:A3 Bv} {cs:A3 AW},J6 B a w H ps cs->(∀b,GF w b ps cs->B'.ED b)->J6 B' a w H ps cs
 |[],_,h,_=>h
 |p::l,_,⟨v,rest,e,CT,hv,hr⟩,k=>by
  subst e;let⟨e1,e2⟩:=QQ (rest:=rest) CT;simp[GF,e1,e2] at k;refine⟨v,rest,rfl,CT,?_,yg hr λb h=>k b<| .inr h⟩;cases p with
  |val _=>exact hv
  |any _ _=>exact hv
  |sm _=>exact hv
  |buf _ _ _=>exact Vq hv λb h=>k b<| .inl h
  |map _ _ _ _ _=>exact yt hv λb h=>k b<| .inl h
def AQ.Rl{B B':Aj P}{a:Act}{w:AR}{H:HV}{v:AW}:∀{s:AQ},s.Ey=false->s.holds B a w H v->(∀b,s.owns w v b->B'.ED b)->s.holds B' a w H v
 | .val _,_,h,_=>h
 | .La _,_,h,_=>h
 | .own _ _,_,⟨b,x,e,h1,h2,h3,_⟩,k=>⟨b,x,e,h1,h2,h3,k b ⟨_,e,rfl⟩⟩
 | .ptr _ _,_,h,_=>h
 | .opt c s,hi,h,k=>⟨λhc=>AQ.Rl (s:=s) hi (h.1 hc) λb hb=>k b ⟨hc,hb⟩,h.2⟩
 | .same _,_,h,_=>h
 | .KI _ _ _,_,h,_=>h
 | .bpf _ _,_,h,_=>h
 | .gone,_,h,_=>h
 | .buf _ _ _,_,h,k=>Vq h k
 | .Nz _ _ _ _,_,h,k=>Vq h k
 | .D8 _ _ _,_,⟨c,cs,e,hb,hn,_,ho,hs,hx⟩,k=>⟨c,cs,e,hb,hn,k c ⟨c,e,.inl rfl⟩,yg ho λb h=>k b ⟨c,e,.inr ⟨cs,hb,h⟩⟩,hs,hx⟩
 | .Gs _ _ _ _ _,_,h,k=>yt h k
 | .R8 _ _ _ _,_,⟨x,e,h⟩,k=>⟨x,e,Vq h λb hb=>k b ⟨x,_,e,hb⟩⟩
 | .inv _,hi,_,_=>by cases hi
 | .KP _ _,_,h,_=>h
 | .vec _ _,_,h,_=>h
 | .Sq _ _,_,h,_=>h
 | .Dv l _,_,⟨h1,h2,_⟩,k=>⟨h1,h2,k l rfl⟩
 | .JQ _ _,_,⟨r,m,es,sn,e,h1,h2,_,h4⟩,k=>⟨r,m,es,sn,e,h1,h2,k r ⟨_,e,rfl⟩,h4⟩
 | .win _ _ _ _,_,h,_=>h
 | .ND _ _ _,_,h,_=>h
 | .Ez _ _ _ _,_,⟨g,c,cur,xs,e,hb,hc,ho,hn,_⟩,k=>⟨g,c,cur,xs,e,hb,hc,ho,hn,k g (by rw[e];rfl)⟩
 | .I8 _ _ _,_,⟨c,p,r,e,hb,hp,hn,_,ho,hx⟩,k=>⟨c,p,r,e,hb,hp,hn,k c ⟨c,e,.inl rfl⟩,Vq ho λb h=>k b ⟨c,e,.inr ⟨p,r,hb,h⟩⟩,hx⟩
def AQ.PR{B:Aj P}{a:Act}{w:AR}{H:HV}{v:AW}{b:Nat}:∀{s:AQ},s.Ey=false->s.holds B a w H v->s.owns w v b->B.ED b
 | .val _,_,_,h=>h.elim
 | .La _,_,_,h=>h.elim
 | .ptr _ _,_,_,h=>h.elim
 | .same _,_,_,h=>h.elim
 | .KI _ _ _,_,_,h=>h.elim
 | .bpf _ _,_,_,h=>h.elim
 | .gone,_,_,h=>h.elim
 | .KP _ _,_,_,h=>h.elim
 | .vec _ _,_,_,h=>h.elim
 | .Sq _ _,_,_,h=>h.elim
 | .own T τ,_,⟨c,x,e,hb,hx,hn,hB⟩,⟨ad,e',h⟩=>by subst e;cases e';cases h;exact hB
 | .buf _ _ _,_,h,k=>(IB h k).2.1
 | .Nz _ _ _ _,_,h,k=>(IB h k).2.1
 | .D8 T _ ps,_,⟨c,cs,e,hb,hn,hB,ho,hs,hx⟩,⟨c',e',h⟩=>by
  subst e;cases e';rcases h with h|⟨E8,Ba,h⟩
  ·subst h;exact hB
  ·rw[hb] at Ba;cases Ba;exact(QK ho h).2.1
 | .Gs _ _ _ _ _,_,h,k=>(S7 h k).2.1
 | .R8 _ _ _ _,_,⟨x,e,h⟩,⟨x',i',e',k⟩=>by rw[e] at e';cases e';exact(IB h k).2.1
 | .opt c s,hi,h,⟨hc,k⟩=>AQ.PR (s:=s) hi (h.1 hc) k
 | .inv _,hi,_,_=>by cases hi
 | .Dv l _,_,⟨_,_,h3⟩,k=>by have k:b=l:=k;subst k;exact h3
 | .JQ _ _,_,⟨r,m,es,sn,e,_,_,h3,_⟩,⟨ad,e',h⟩=>by subst e;cases e';cases h;exact h3
 | .win _ _ _ _,_,_,h=>h.elim
 | .ND _ _ _,_,_,h=>h.elim
 | .Ez _ _ _ _,_,⟨g,c,cur,xs,e,hb,_,_,hn,hB⟩,h=>by subst e;cases h;exact hB
 | .I8 _ _ _,_,⟨c,p,r,e,hb,_,_,hB,ho,_⟩,⟨c',e',h⟩=>by
  subst e;cases e';rcases h with h|⟨p',r',Ba,h⟩
  ·subst h;exact hB
  ·have e2:=hb.symm.trans Ba;simp at e2;obtain⟨rfl,rfl⟩:=e2;exact(IB ho h).2.1
end
section
variable[D:DR]
variable{d:Nat}
def look:Ctx->Nat->AA AQ
 |[],_=>none
 |(k,s)::Γ,t=>match Nat.beq k t with
  |true=>some s
  |false=>look Γ t
def B6:∀{Γ:Ctx} {t:Nat} {s:AQ},look Γ t=some s->(t,s)∈Γ
 |[],_,_,h=>by simp[look] at h
 |(k,s')::Γ,t,s,h=>by
  simp[look] at h;cases hb:Nat.beq k t
  ·rw[hb] at h;exact C2 _<|B6 h
  ·rw[hb] at h;have:=EA hb;simp at h;subst this;subst h;simp
def AQ.LQ(s:AQ)(d:Nat):Bool:=s.CA.any λt=>Nat.beq t d
def YX{s:AQ}(h:s.LQ d=false):d∉s.CA:=λhm=>by have:=Za.1 h d hm;simp at this
theorem ahO{s:AQ}(h:d∉s.CA):s.LQ d=false:=by(simp_all [AQ.CA,AQ.LQ]<;>grind)
def del(d:Nat):Ctx->Ctx
 |[]=>[]
 |p::Γ=>bif Nat.beq p.1 d||p.2.LQ d then del d Γ else p::del d Γ
def MQ{d:Nat}:∀{Γ:Ctx},∀p∈del d Γ,p∈Γ
 |[],p,h=>by simp[del] at h
 |q::Γ,p,h=>by
  simp[del] at h;cases hb:(Nat.beq q.1 d||q.2.LQ d)
  ·rw[hb] at h;rcases Ao.1 h with e|h
   ·simp[e]
   ·exact C2 _<|MQ p h
  ·rw[hb] at h;exact C2 _<|MQ p h
def PW{d:Nat}:∀{Γ:Ctx},Jp d (del d Γ)=true
 |[]=>rfl
 |q::Γ=>by
  simp[del];cases hb:(Nat.beq q.1 d||q.2.LQ d)
  ·simp[Ar];have ih:=PW (d:=d) (Γ:=Γ);simp[Jp,OT,C6] at ih⊢;refine⟨?_,ih⟩;simp at hb;refine⟨by simpa using Nat.ne_of_beq_eq_false hb.1,?_⟩;simpa using YX hb.2
  ·simpa using PW (d:=d) (Γ:=Γ)
inductive ES(Γ:Ctx):A3 Nat->Ctx->Prop where
 |nil:ES Γ [] []
 |cons {t:Nat} {s:AQ} {ts:A3 Nat} {An:Ctx} (h:look Γ t=some s) (r:ES Γ ts An):ES Γ (t::ts) ((t,s)::An)
def ES.sub{Γ:Ctx}{ts:A3 Nat}{An:Ctx}(h:ES Γ ts An):∀p∈An,p∈Γ:=by
 induction h with
 |nil=>simp
 |cons h _ ih=>
  intro p hp;rcases Ao.1 hp with e|hp
  ·subst e;exact B6 h
  ·exact ih p hp
theorem ES.keys{Γ:Ctx}{ts:A3 Nat}{An:Ctx}(h:ES Γ ts An):∀p∈An,p.1∈ts:=by
 induction h with
 |nil=>simp
 |cons h _ ih=>
  intro p hp;rcases Ao.1 hp with e|hp
  ·subst e;simp
  ·grind
def Az(P:CO)(Γ:Ctx)(o:Oper)(s:AQ):Prop:=
 ∀(w0:Aj P) (H0:HV) (N:Nat) (a:Act) (w:AR) (H:HV),Sat w0 H0 N Γ a w H->∀(K:Act->AR->Prop) (Q:Exit->Act->AR->Prop),(∀v w' H',Ext w H w' H'->s.holds w0 a w' H' v->(∀b,s.owns w' v b->w.heap.size<=b)->K (a.put o.dst v) w')->o.wp P a w K Q
def Step(P:CO)(N:Nat)(ops:BA Oper)(o:Oper)(Γ An:Ctx):Prop:=
 ∀(w0:Aj P) (H0:HV) (a:Act) (w:AR) (H:HV),Sat w0 H0 N Γ a w H->∀(K:Act->AR->Prop) (Q:Exit->Act->AR->Prop),(∀a' w' H',Sat w0 H0 N An a' w' H'->K a' w')->if Region.wanted o (yielded ops a.tmps) then o.wp P a w K Q else K (a.put o.dst undef) w
end
section
variable[D:DR]
variable{P:Program}{N:Nat}{ops:Array Oper}{Γ An En Ti:Ctx}
variable{d:Nat}{s:AQ}{j dj:Nat}{b:Bool}{H0:HV}{a:Act}{H:HV}{e want:Bool}
def Step.pure{o:Oper}(h:Az P Γ o s)(hg:o.guard=none)(hd:o.dst=some d)(hN:d<N)(hf:Jp d Γ=true)(hl:s.LQ d=false):Step P N ops o Γ ((d,s)::Γ):=by
 intro w0 H0 a w H hs K Q k;simp[Region.wanted,hg,if_true];refine h w0 H0 N a w H hs K Q λv w' H' he hv hb=>?_
 rw[hd];exact k _ _ _<|S2 hs he hN hf (YX hl) hv hb
def Step.over{o:Oper}(h:Az P Γ o s)(hg:o.guard=none)(hd:o.dst=some d)(hN:d<N)(hl:s.LQ d=false):Step P N ops o Γ ((d,s)::del d Γ):=by
 intro w0 H0 a w H hs K Q k;simp[Region.wanted,hg,if_true];refine h w0 H0 N a w H hs K Q λv w' H' he hv hb=>?_
 rw[hd];exact k _ _ _<|S2 (hs.weaken MQ) he hN PW (YX hl) hv hb
def gd(b:Bool):Bool->Bool
 |true=>b
 |false=> !b
def agu{w0:Aj P}{w:AR}(hs:Sat w0 H0 N Γ a w H)(hj:(ops[j]?).bind (·.dst)=some dj)(hl:look Γ dj=some (.val<|Aw b))(hN:dj<N):yielded ops a.tmps j=some b:=by
 have h:=hs.holds _<|B6 hl
 have h:Ae a dj= .bool b:=h;have hlt:dj<a.tmps.size:=hs.sz▸hN;simp[yielded,hj,Option.bind_some];simp[Ae,hlt] at h;simp[hlt,h]
def ai3{o:Oper}{w0:Aj P}{w:AR}(hs:Sat w0 H0 N Γ a w H)(hg:o.guard=some (j,want))(hj:(ops[j]?).bind (·.dst)=some dj)(hl:look Γ dj=some (.val<|Aw b))(hN:dj<N):Region.wanted o (yielded ops a.tmps)=gd b want:=by simp[Region.wanted,hg,agu hs hj hl hN];cases b<;>cases want<;>rfl
inductive Iv(Γ:Ctx)(e:Bool):Ctx->Prop where
 |nil:Iv Γ e []
 |v {t:Nat} {s:AQ} {An:Ctx} (h:look Γ t=some s) (r:Iv Γ e An):Iv Γ e ((t,s)::An)
 |o {t:Nat} {s:AQ} {c:Bool} {An:Ctx} (h:look Γ t=some (.opt c s)) (k:e=true->c=true) (r:Iv Γ e An):Iv Γ e ((t,s)::An)
def Iv.mem{Γ An:Ctx}(h:Iv Γ e An)(he:e=true):∀p∈An,p∈Γ\/(p.1,AQ.opt true p.2)∈Γ:=by
 induction h with
 |nil=>simp
 |v h _ ih=>
  intro p hp;rcases Ao.1 hp with e|hp
  ·subst e;exact .inl<|B6 h
  ·exact ih p hp
 |o h k _ ih=>
  intro p hp;rcases Ao.1 hp with e|hp
  ·subst e;have:=k he;subst this;exact .inr<|B6 h
  ·exact ih p hp
theorem Iv.sat{Γ An:Ctx}(h:Iv Γ e An)(he:e=true){w0:Aj P}{N:Nat}{w:AR}(hs:Sat w0 H0 N Γ a w H):Sat w0 H0 N An a w H:=by
 have key:∀p∈An,∃s,(p.1,s)∈Γ/\(s.holds w0 a w H (Ae a p.1)->p.2.holds w0 a w H (Ae a p.1))/\∀v b,p.2.owns w v b->s.owns w v b:=by
  intro p hp;rcases h.mem he p hp with h|h
  ·grind
  ·exact⟨_,h,λk=>k.1 rfl,λv b hb=>⟨rfl,hb⟩⟩
 refine⟨hs.nd,hs.sz,hs.below,hs.Fe,hs.sub,?_,?_,hs.gl⟩
 ·intro p hp;let⟨s,h1,h2,_⟩:=key p hp;exact h2<|hs.holds _ h1
 ·intro p hp q hq hne b hb Ba;let⟨s,h1,_,h3⟩:=key p hp;let⟨s',h1',_,h3'⟩:=key q hq;exact hs.sep _ h1 _ h1' hne b (h3 _ _ hb)<|h3' _ _ Ba
def opO{Ai:Ctx}{o:Oper}(ho:Iv Γ e Ai)(h:e=true->Az P Ai o s):e=true->Az P Γ o s:=λhe w0 H0 N a w H hs K Q k=>h he w0 H0 N a w H (ho.sat he hs) K Q λv w' H' hx hv hb=>k v w' H' hx hv hb
structure XL(ops:BA Oper)(N:Nat)(Γ:Ctx)(o:Oper)(e:Bool):Prop where
 w:∀{P':CO} (w0:Aj P') (H0:HV) (a:Act) (w:AR) (H:HV),Sat w0 H0 N Γ a w H->Region.wanted o (yielded ops a.tmps)=e
def XL.v{o:Oper}(hg:o.guard=some (j,want))(hj:(ops[j]?).bind (·.dst)=some dj)(hl:look Γ dj=some (.val<|Aw b))(hN:dj<N):XL ops N Γ o (gd b want):=⟨λ_ _ _ _ _ hs=>ai3 hs hg hj hl hN⟩
def XL.o{o:Oper}{j dj:Nat}{b c want:Bool}(hg:o.guard=some (j,want))(hj:(ops[j]?).bind (·.dst)=some dj)(hl:look Γ dj=some (.opt c<| .val<|Aw b))(hN:dj<N):XL ops N Γ o (c&&gd b want):=
 ⟨λ_ _ a _ _ hs=>by
  have h:=hs.holds _<|B6 hl
  have hlt:dj<a.tmps.size:=hs.sz▸hN;cases c
  ·have e:Ae a dj=undef:=h.2 rfl;simp[Ae,hlt] at e;have:yielded ops a.tmps j=none:=by simp[yielded,hj,hlt,e,undef]
   simp[Region.wanted,hg,this]
  ·have e:Ae a dj= .bool b:=h.1 rfl;simp[Ae,hlt] at e;have:yielded ops a.tmps j=some b:=by simp[yielded,hj,hlt,e]
   simp[Region.wanted,hg,this,Lt];cases b<;>cases want<;>rfl⟩
def Step.guarded{o:Oper}(hgd:XL ops N Γ o e)
 (h:e=true->Az P Γ o s)(hd:o.dst=some d)(hN:d<N)(hf:Jp d Γ=true)(hl:s.LQ d=false):Step P N ops o Γ ((d,.opt e s)::Γ):=by
 intro w0 H0 a w H hs K Q k;rw[hgd.w w0 H0 a w H hs];have hl':d∉(AQ.opt e s).CA:=YX (s:=s) hl;cases hb:e
 ·simp[UE,if_false];rw[hd];subst hb;exact k _ _ _ (S2 hs (Ext.refl hs.sub) hN hf hl' ⟨(λe=>by cases e),λ_=>rfl⟩ (λc e=>by cases e.1))
 ·simp[if_true];subst hb;refine h rfl w0 H0 N a w H hs K Q λv w' H' he hv hfr=>?_
  rw[hd];exact k _ _ _ (S2 hs he hN hf hl' ⟨(λ_=>hv),(λe=>by cases e)⟩<|λc e=>hfr c e.2)
def SN(o:Oper):A3 Edge:=o.after.toList.filter<|Region.binds .any
def Nw(ops:BA Oper)(av:A3 (A3 Nat)):Bool:=
 (List.range ops.size).all λi=>match ops[i]? with
  |none=>false
  |some o=>((SN o).all λe=>decide<|e.on<i)&&
   (av.getD i []).all λj=>(SN o).any λe=>e.on==j||(av.getD e.on []).contains j
def Qm(ops:BA Oper)(k:Nat)(av:A3 (A3 Nat)):Bool:=decide (k<=ops.size)&&(List.range ops.size).all λi=>decide (i<k)||(List.range i).all λj=>(av.getD i []).contains j
def meets(x:A3 (Nat×A3 Nat))(l:A3 Nat):Bool:=x.any λp=>l.contains p.1
def T4(k:Nat)(kl:A3 (A3<|Nat×A3 Nat))(Dr:A3 (A3 Nat))(Dq:A3 Bool)(L:A3 Nat)(av:A3 (A3 Nat)):Bool:=
 ((List.range k).all λj=>(List.range j).all λi=>(!(meets (kl.getD i []) (Dr.getD j [])||meets (kl.getD i []) ((kl.getD j []).map (·.1))||meets (kl.getD j []) (Dr.getD i [])))||(av.getD j []).contains i)&&
 ((List.range k).all λj=> !(Dq.getD j true)||(!(meets ((kl.getD j []).take 1) L)&&(List.range k).all λi=>(kl.getD i []).all λp=>p.2.all λt=>!(meets ((kl.getD j []).take 1) [t])||(i !=j&&(meets (kl.getD j []) [p.1]||(av.getD i []).contains j||(av.getD j []).any λm=>decide (i<m)&&meets (kl.getD m []) [p.1]))||(i==j&& !(meets ((kl.getD j []).take 1) [p.1]))))
def OX:Ctx->A3 Nat
 |[]=>[]
 |p::Γ=>p.2.CA++OX Γ
def w6:∀{Γ:Ctx} {q:Nat×AQ} {t:Nat},q∈Γ->t∈q.2.CA->t∈OX Γ
 |p::Γ,q,t,h,e=>by
  rcases Ao.1 h with h|h
  ·subst h;simp[OX,e]
  ·have:=w6 h e;simp[OX,this]
def BI(d:Nat):Ctx->Ctx
 |[]=>[]
 |p::Γ=>bif Nat.beq p.1 d then BI d Γ else p::BI d Γ
def DM{d:Nat}:∀{Γ:Ctx},∀p∈BI d Γ,p∈Γ/\p.1≠d
 |[],p,h=>by simp[BI] at h
 |q::Γ,p,h=>by
  simp[BI] at h;cases hb:Nat.beq q.1 d
  ·rw[hb] at h;rcases Ao.1 h with e|h
   ·subst e;exact⟨by simp,Nat.ne_of_beq_eq_false hb⟩
   ·exact⟨C2 _ (DM p h).1,(DM p h).2⟩
  ·rw[hb] at h;exact⟨C2 _ (DM p h).1,(DM p h).2⟩
theorem PU{d:Nat}:∀{Γ:Ctx} {p:Nat×AQ},p∈Γ->p.1≠d->p∈BI d Γ
 |q::Γ,p,h,hn=>by
  simp[BI];rcases Ao.1 h with e|h
  ·subst e;cases hb:Nat.beq p.1 d
   ·simp
   ·exact absurd (EA hb) hn
  ·have:=PU h hn;cases Nat.beq q.1 d
   ·grind
   ·exact this
def P3(P:CO)(N:Nat)(ops:BA Oper)(Ai:Ctx)(o:Oper)(t:Nat)(s:AQ):Prop:=∀EM:Ctx,(∀q∈Ai,q∈EM)->Step P N ops o EM ((t,s)::BI t EM)
def kP(ks:A3 Nat)(Γ:Ctx):Ctx:=Γ.filter λq=> !ks.contains q.1
def Yu{ks:A3 Nat}{Γ:Ctx}{q:Nat×AQ}:q∈kP ks Γ↔q∈Γ/\q.1∉ks:=by simp[kP]
def Q6(P:CO)(N:Nat)(ops:BA Oper)(Ai:Ctx)(o:Oper)(t d:Nat)(s:AQ):Prop:=∀EM:Ctx,(∀q∈Ai,q∈EM)->Step P N ops o EM ((d,s)::del d (BI t EM))
def kQ(P:CO)(N:Nat)(ops:BA Oper)(Ai:Ctx)(o:Oper)(t:Nat)(s':AQ)(d:Nat)(s:AQ):Prop:=∀EM:Ctx,(∀q∈Ai,q∈EM)->Step P N ops o EM ((d,s)::(t,s')::del d (BI t EM))
def acy(P:CO)(N:Nat)(ops:BA Oper)(put:Bool)(c Ai:Ctx)(o:Oper):Prop:=∀EM:Ctx,(∀q∈Ai,q∈EM)->(put=true->∀q∈EM,q.1∉c.map (·.1)->∀p∈c.take 1,p.1∉q.2.CA)->(put=true->∀q∈c.take 1,∀p∈c.take 1,p.1∉q.2.CA)->∃An:Ctx,Step P N ops o EM An/\∀q,q∈c++kP (c.map (·.1)) EM->q∈An
inductive Er(P:CO)(N:Nat)(ops:BA Oper)(Γ:Ctx):A3 Ctx->A3 Oper->A3 (A3 Nat)->A3 Bool->A3 Ctx->Prop where
 |nil {acc:A3 Ctx}:Er P N ops Γ acc [] [] [] acc
 |gen {acc S:A3 Ctx} {Ai c:Ctx} {o:Oper} {l:A3 Oper} {ts:A3 Nat} {Dr:A3 (A3 Nat)} {put:Bool} {Dq:A3 Bool}
   (hs:ES (acc.flatten++Γ) ts Ai) (h:acy P N ops put c Ai o) (r:Er P N ops Γ (c::acc) l Dr Dq S):Er P N ops Γ acc (o::l) (ts::Dr) (put::Dq) S
theorem aga{A B:Ctx}{t:Nat}(h:look (A++B) t=some s):look A t=some s\/((∀q∈A,q.1≠t)/\look B t=some s):=by
 induction A with
 |nil=>exact .inr ⟨(λq hq=>by cases hq),h⟩
 |cons p A ih=>
  let⟨k,s'⟩:=p;simp only[SI,look] at h⊢;cases hb:Nat.beq k t
  ·rw[hb] at h;rcases ih h with h|⟨h1,h2⟩
   ·exact .inl h
   ·refine .inr ⟨λq hq=>?_,h2⟩;rcases Ao.1 hq with e|hq
    ·subst e;exact Nat.ne_of_beq_eq_false hb
    ·exact h1 q hq
  ·grind
def At(Γ:Ctx)(S:A3 Ctx)(i:Nat)(q:Nat×AQ):Prop:=(∃j c,j<i/\S[j]? =some c/\q∈c/\∀j' c',j<j'->j'<i->S[j']? =some c'->∀q'∈c',q'.1≠q.1)\/(q∈Γ/\∀j c',j<i->S[j]? =some c'->∀q'∈c',q'.1≠q.1)
theorem ng{Γ:Ctx}{t:Nat}{s:AQ}{S:A3 Ctx}:∀{acc:A3 Ctx},(∀j,j<acc.length->S[j]? =acc.reverse[j]?)->look (acc.flatten++Γ) t=some s->At Γ S acc.length (t,s)
 |[],_,h=> .inr ⟨B6 (by simpa using h),λj c' hj=>by simp at hj⟩
 |c::acc,hS,h=>by
  have aql:S[acc.length]? =some c:=by grind
  rw[List.flatten_cons,Hm] at h;rcases aga h with h|⟨h1,h2⟩
  ·exact .inl ⟨acc.length,c,by simp,aql,B6 h,λj' c' h3 h4=>by simp at h4;omega⟩
  ·have ih:=ng (acc:=acc) (λj hj=>by rw[hS j (by simp;omega),List.reverse_cons,MX (by simpa using hj)]) h2
   rcases ih with⟨j,c0,k1,k2,k3,k4⟩|⟨k1,k2⟩
   ·refine .inl ⟨j,c0,by simp;omega,k2,k3,λj' c' h3 h4 h5=>?_⟩;simp at h4;by_cases e:j'=acc.length
    ·grind
    ·grind
   ·refine .inr ⟨k1,λj' c' h4 h5=>?_⟩;simp at h4;by_cases e:j'=acc.length
    ·grind
    ·grind
structure abf(P:CO)(N:Nat)(ops:BA Oper)(Γ:Ctx)(ts:A3 Nat)(put:Bool)(S:A3 Ctx)(i:Nat)(o:Oper)(c:Ctx):Prop where
 exec:∃Ai:Ctx,acy P N ops put c Ai o/\∀q∈Ai,q.1∈ts/\At Γ S i q
def ES.looks{Γ:Ctx}{ts:A3 Nat}{An:Ctx}(h:ES Γ ts An):∀p∈An,look Γ p.1=some p.2:=by
 induction h with
 |nil=>simp
 |cons h _ ih=>
  intro p hp;rcases Ao.1 hp with e|hp
  ·subst e;exact h
  ·exact ih p hp
def yZ{EM:Ctx}(h:∀q∈EM,q.1≠d->d∉q.2.CA):Jp d (BI d EM)=true:=by simp only[Jp,Dk,C6,MM,ne_eq];exact λq hq=>⟨(DM q hq).2,by simpa using h q (DM q hq).1 (DM q hq).2⟩
def Sat.anh{P:CO}{w0:Aj P}{w:AR}(hs:Sat w0 H0 N Γ a w H)(t:Nat):Sat w0 H0 N ((t,.gone)::Γ) a w H:=by
 refine⟨hs.nd,hs.sz,hs.below,hs.Fe,hs.sub,?_,?_,hs.gl⟩
 ·intro p hp;rcases Ao.1 hp with e|hp
  ·subst e;trivial
  ·exact hs.holds p hp
 ·intro p hp q hq hne b hb Ba;rcases Ao.1 hp with e|hp
  ·subst e;exact hb.elim
  ·rcases Ao.1 hq with e|hq
   ·subst e;exact Ba.elim
   ·exact hs.sep p hp q hq hne b hb Ba
def Step.gone{o:Oper}(h:Step P N ops o Γ An)(t:Nat):Step P N ops o Γ ((t,.gone)::An):=λw0 H0 a w H hs K Q k=>h w0 H0 a w H hs K Q λa' w' H' DN=>k a' w' H'<|DN.anh t
def Step.ac6{o:Oper}(h:Step P N ops o Γ An):∀gs:A3 Nat,Step P N ops o Γ ((gs.map λu=>(u,AQ.gone))++An)
 |[]=>h
 |u::gs=>(Step.ac6 h gs).gone u
theorem qE{EM:Ctx}{p q:Nat×AQ}(h:q∈[p]++kP ([p].map (·.1)) EM):q∈p::BI p.1 EM:=by
 rcases Bs.1 h with h|h
 ·grind
 ·let⟨h1,h2⟩:=Yu.1 h;exact C2 _ (PU h1 (by simpa using h2))
theorem S6{d:Nat}:∀{Γ:Ctx} {p:Nat×AQ},p∈Γ->p.1≠d->d∉p.2.CA->p∈del d Γ
 |q::Γ,p,h,hn,hl=>by
  simp[del];have hq:(Nat.beq p.1 d||p.2.LQ d)=false:=by rw[MW];exact⟨by cases hb:Nat.beq p.1 d;rfl;exact absurd (EA hb) hn,ahO hl⟩
  rcases Ao.1 h with e|h
  ·grind
  ·have:=S6 h hn hl;cases(Nat.beq q.1 d||q.2.LQ d)
   ·grind
   ·exact this
def Er.at_{acc:A3 Ctx}{l:A3 Oper}{Dr:A3 (A3 Nat)}{Dq:A3 Bool}{S:A3 Ctx}(h:Er P N ops Γ acc l Dr Dq S):(∃S',S=S'++acc/\S'.length=l.length)/\Dr.length=l.length/\Dq.length=l.length/\∀(i:Nat) (o:Oper) (ts:A3 Nat) (put:Bool),l[i]? =some o->Dr[i]? =some ts->Dq[i]? =some put->∃p,S.reverse[acc.length+i]? =some p/\abf P N ops Γ ts put S.reverse (acc.length+i) o p:=by
 have step:∀{acc:A3 Ctx} {c:Ctx} {l:A3 Oper} {S:A3 Ctx},(∃S',S=S'++c::acc/\S'.length=l.length)->(∃S',S=S'++acc/\S'.length=l.length+1)/\S.reverse[acc.length]? =some c/\∀j,j<acc.length->S.reverse[j]? =acc.reverse[j]? :=by rintro acc c l S ⟨S',rfl,hl⟩;refine⟨⟨S'++[c],by simp,by simp[hl]⟩,by simp,λj hj=>?_⟩;simp[List.reverse_append,List.reverse_cons,Hm];rw[MX (by simpa using hj)]
 induction h with
 |nil=>exact⟨⟨[],by simp⟩,rfl,rfl,λi o _ _ h=>by simp at h⟩
 | @gen acc S Ai c o l ts Dr put Dq hs h r ih=>
  let⟨h1,h2,h3,h4⟩:=ih;let⟨k1,k2,k3⟩:=step h1;refine⟨by simpa using k1,by simp[h2],by simp[h3],?_⟩;intro i o' ts' arv hi hn hp;cases i with
  |zero=>simp at hi hn hp;subst hi;subst hn;subst hp;exact⟨c,by simpa using k2,⟨Ai,h,λq hq=>⟨hs.keys q hq,by simpa using ng k3 (hs.looks q hq)⟩⟩⟩
  |succ i=>
   simp at hi hn hp;let⟨p,hp1,hp2⟩:=h4 i o' ts' arv hi hn hp;have e:acc.length+(i+1)=(c::acc).length+i:=by simp;omega
   rw[e];exact⟨p,hp1,hp2⟩
end
section
variable[D:DR]
variable{P:Program}{N:Nat}{ops:Array Oper}{Γ An En Ti:Ctx}
variable{acc S:List Ctx}{Γ Ai:Ctx}{o:Oper}{l:List Oper}{ts:List Nat}{Dr:List (List Nat)}{Dq:List Bool}{t d u:Nat}{s s' su:AQ}{e:Bool}(gs:List Nat)(hs:ES (acc.flatten++Γ) ts Ai)
include hs
def Er.cons(h:Az P Ai o s)(hg:o.guard=none)(hd:o.dst=some d)(hN:d<N)(r:Er P N ops Γ ([(d,s)]::acc) l Dr Dq S):Er P N ops Γ acc (o::l) (ts::Dr) (true::Dq) S:=by
 refine .gen hs (λEM BE KF ai=>?_) r;refine⟨(d,s)::BI d EM,?_,λq hq=>qE hq⟩;intro w0 H0 a w H BF K Q kk;simp[Region.wanted,hg,if_true];refine h w0 H0 N a w H (BF.weaken BE) K Q λv w' H' he hv hb=>?_
 rw[hd];exact kk _ _ _ (S2 (BF.weaken λq hq=>(DM q hq).1) he hN (yZ λq hq hn=>KF rfl q hq (by simpa using hn) (d,s) (by simp)) (ai rfl (d,s) (by simp) (d,s) (by simp)) hv hb)
def Er.guarded(hgd:XL ops N Ai o e)(h:e=true->Az P Ai o s)(hd:o.dst=some d)(hN:d<N)(r:Er P N ops Γ ([(d,.opt e s)]::acc) l Dr Dq S):Er P N ops Γ acc (o::l) (ts::Dr) (true::Dq) S:=by
 refine .gen hs (λEM BE KF ai=>?_) r;refine⟨(d,.opt e s)::BI d EM,?_,λq hq=>qE hq⟩;intro w0 H0 a w H BF K Q kk;rw[hgd.w w0 H0 a w H<|BF.weaken BE];have abx:=BF.weaken (An:=BI d EM) λq hq=>(DM q hq).1
 have hf':Jp d (BI d EM)=true:=yZ λq hq hn=>KF rfl q hq (by simpa using hn) (d,.opt e s) (by simp)
 have DN:d∉(AQ.opt e s).CA:=ai rfl (d,.opt e s) (by simp) (d,.opt e s) (by simp);cases hb:e
 ·simp[UE,if_false];rw[hd];subst hb;exact kk _ _ _ (S2 abx (Ext.refl BF.sub) hN hf' DN ⟨(λe=>by cases e),λ_=>rfl⟩ (λc e=>by cases e.1))
 ·simp[if_true];subst hb;refine h rfl w0 H0 N a w H (BF.weaken BE) K Q λv w' H' he hv hfr=>?_
  rw[hd];exact kk _ _ _ (S2 abx he hN hf' DN ⟨(λ_=>hv),(λe=>by cases e)⟩<|λc e=>hfr c e.2)
def Er.store(h:P3 P N ops Ai o t s)(r:Er P N ops Γ ([(t,s)]::acc) l Dr Dq S):Er P N ops Γ acc (o::l) (ts::Dr) (false::Dq) S:=.gen hs (λEM BE _ _=>⟨_,h EM BE,λq hq=>qE hq⟩) r
theorem Er.av8(h:Q6 P N ops Ai o t d s)(r:Er P N ops Γ (((d,s)::(t,.gone)::gs.map λu=>(u,.gone))::acc) l Dr Dq S):Er P N ops Γ acc (o::l) (ts::Dr) (true::Dq) S:=by
 refine .gen hs (λEM BE KF _=>⟨_,((h EM BE).ac6 gs).gone t,λq hq=>?_⟩) r;rcases Bs.1 hq with hq|hq
 ·grind
 ·let⟨m1,m2⟩:=Yu.1 hq;have m3:=m2;simp[MO,Ao,not_or] at m2;refine C2 _<|UI _<|C2 _<|S6 (PU m1 m2.2.1) m2.1 ?_
  exact KF rfl q m1 m3 (d,s) (by simp)
theorem Er.two(h:kQ P N ops Ai o t s' d s)(r:Er P N ops Γ ([(d,s),(t,s')]::acc) l Dr Dq S):Er P N ops Γ acc (o::l) (ts::Dr) (true::Dq) S:=by
 refine .gen hs (λEM BE KF _=>⟨_,h EM BE,λq hq=>?_⟩) r;rcases Bs.1 hq with hq|hq
 ·grind
 ·let⟨m1,m2⟩:=Yu.1 hq;have m3:=m2;simp[MO,ZM,Ao,ZX,or_false,not_or] at m2;exact C2 _ (C2 _ (S6 (PU m1 m2.2) m2.1 (KF rfl q m1 m3 (d,s) (by simp))))
end
section
variable[D:DR]
variable{P:CO}{w:AR}{o:Oper}{n:Nat}{l:A3 Oper}
def II{P:CO}(w0:Aj P)(N:Nat)(Γ En:Ctx):Prop:=∀(H0:HV) (a:Act) (w:AR) (H:HV),Sat w0 H0 N Γ a w H->∃H',Sat w0 H0 N En a w H'
inductive JS(P:CO)(w0:Aj P)(N:Nat)(ops:BA Oper):A3 Oper->Ctx->Ctx->Prop where
 |done {Γ:Ctx}:JS P w0 N ops [] Γ Γ
 |fin {Γ An:Ctx} {ts:A3 Nat} (h:ES Γ ts An):JS P w0 N ops [] Γ An
 |cons {Γ En Ti:Ctx} {o:Oper} {l:A3 Oper} (h:Step P N ops o Γ En) (r:JS P w0 N ops l En Ti):JS P w0 N ops (o::l) Γ Ti
 |ghost {Γ En Ti:Ctx} {l:A3 Oper} (h:II w0 N Γ En) (r:JS P w0 N ops l En Ti):JS P w0 N ops l Γ Ti
def Fh(rd:AA Nat):Fence:={fn:=λ_=>True,depth:=none,alive:=false,round:=rd}
def abW{rd:AA Nat}{f:FuncId}{args:BA AW}{R:Ending->AR->Prop}(h:Calls P f args w R):CallsIn (Fh rd) n P f args w R:=(callsIn_wide (n:=n)).2 h
def Z9{rd:AA Nat}{a:Act}{K:Act->AR->Prop}{Q:Exit->Act->AR->Prop}(IU:∀c,o.op≠ .defer c)(h:o.wp P a w K Q):o.wpIn (Fh rd) 0 P a w K Q:=by
 refine⟨λ_ _=>trivial,?_⟩;rw[Oper.semAt_eq _ _ _ IU];unfold Oper.wp at h
 generalize (execOp a.eval o).run P w=r at*
 cases r with
 |ok n w'=>
  cases n<;>simp[Oper.upon] at h<;>first
   |exact h
   |exact h.elim
   |exact⟨(λe=>by cases e),abW h⟩
   |exact⟨(λe=>by cases e),λc cs _=>let⟨v,w2,r1,s⟩:=h c cs;⟨v,w2,r1,stepsIn_wide.2 s⟩⟩
 |halt x w'=>cases x<;>simp[Oper.upon] at h⊢ <;>exact h
def CallsIn.abo{F:Fence}{f:FuncId}{args:BA AW}{R R':Ending->AR->Prop}(h:CallsIn F n P f args w R)(hr:∀e w',R e w'->R' e w'):CallsIn F n P f args w R':=⟨h.1,λcs hc=>let⟨e,w',fr,r,s⟩:=h.2 cs hc;⟨e,w',fr,hr _ _ r,s⟩⟩
def vA{F:Fence}{a:Act}{K K':Act->AR->Prop}{Q:Exit->Act->AR->Prop}(h:∀a w,K a w->K' a w)(hh:o.wpIn F n P a w K Q):o.wpIn F n P a w K' Q:=by
 refine⟨hh.1,?_⟩;have hh:=hh.2
 generalize (o.semAt F.round a.eval).run P w=r at*
 cases r with
 |ok n w'=>
  cases n<;>simp[Oper.uponIn] at hh⊢ <;>
   first
    |exact h _ _ hh
    |exact⟨hh.1,CallsIn.abo hh.2 (λe w'' he=>by cases e<;>first|exact h _ _ he|exact he)⟩
    |exact⟨hh.1,RowsIn.mono hh.2<|λ_ _ he=>h _ _ he⟩
    |exact⟨hh.1,RoundIn.mono hh.2 (λe w'' he=>by cases e<;>first|exact h _ _ he|exact he)⟩
 |halt x w'=>cases x<;>simp only[Oper.uponIn] at hh⊢ <;>exact hh
def Js(l:A3 Oper):Bool:=l.all λo=>match o.op with| .defer _=>false|_=>true
def nO(h:Js l=true)(ho:o∈l):∀c,o.op≠ .defer c:=λc e=>by have:=Dk.1 h o ho;simp[e] at this
theorem wS(h:Js (o::l)=true):Js l=true:=by grind [Js]
def JS.sound{w0:Aj P}{N:Nat}{ops:BA Oper}{Γ An:Ctx}(h:JS P w0 N ops l Γ An):Js l=true->∀(H0:HV) (a:Act) (w:AR) (H:HV),Sat w0 H0 N Γ a w H->∀(Q:Exit->Act->AR->Prop),(∀a' w' H',Sat w0 H0 N An a' w' H'->Q .normal a' w')->wpListIn (Fh w0.rd) 0 P ops Q l a w:=by
 induction h with
 |done=>exact λ_ _ _ _ H hs _ k=>k _ _ H hs
 |fin h=>exact λ_ _ _ _ H hs _ k=>k _ _ H<|hs.weaken h.sub
 | @cons _ _ _ o l h _ ih=>
  intro Ax H0 a w H hs Q k;have Et:=h w0 H0 a w H hs (wpListIn (Fh w0.rd) 0 P ops Q l) Q λa' w' H' DN=>ih (wS Ax) H0 a' w' H' DN Q k
  unfold wpListIn;split
  ·rename_i hw;rw[if_pos hw] at Et;exact Z9 (nO Ax (by simp)) Et
  ·rename_i hw;rw[if_neg hw] at Et;exact⟨λ_ _=>trivial,Et⟩
 |ghost h _ ih=>intro Ax H0 a w H hs Q k;let⟨H',DN⟩:=h H0 a w H hs;exact ih Ax H0 a w H' DN Q k
end
section
variable[D:DR]
variable{P:Program}{ops:Array Oper}{Q:Exit->Act->World->Prop}{F:Fence}
def Qv(F:Fence)(P:CO)(ops:BA Oper)(Q:Exit->Act->AR->Prop)(i:Nat)(K:Act->AR->Prop)(a:Act)(w:AR):Prop:=
 match ops[i]? with
 |none=>K a w
 |some o=>if Region.wanted o (yielded ops a.tmps) then o.wpIn F 0 P a w K Q else(∀f,o.about P w a.eval=some f->F.fn f)/\K (a.put o.dst undef) w
def Pl(F:Fence)(P:CO)(ops:BA Oper)(Q:Exit->Act->AR->Prop):Nat->BA Bool->Act->AR->Prop
 |0,listed,a,w=>Region.ready .any ops listed=[]/\Q .normal a w
 |fuel+1,listed,a,w=>
  (Region.ready .any ops listed=[]->Q .normal a w)/\
  ∀i∈Region.ready .any ops listed,Qv F P ops Q i (Pl F P ops Q fuel<|listed.setIfInBounds i true) a w
def ag3(i:Nat)(rest:A3 Nat)(a:Act)(w:AR):wpOpsIn F 0 P ops Q (i::rest) a w=Qv F P ops Q i (wpOpsIn F 0 P ops Q rest) a w:=by cases h:ops[i]? <;>simp[wpOpsIn,Qv,h]
def agv{i:Nat}{a:Act}{w:AR}{K K':Act->AR->Prop}(h:∀a w,K a w->K' a w)(hh:Qv F P ops Q i K a w):Qv F P ops Q i K' a w:=by
 unfold Qv at*;split
 ·exact h _ _ (by simpa[*] using hh)
 ·rename_i o ho;simp[ho] at hh;split
  ·rename_i hw;simp[hw,if_true] at hh;exact vA h hh
  ·rename_i hw;simp[hw] at hh;exact⟨hh.1,h _ _ hh.2⟩
def afY:∀(fuel t:Nat) (listed:BA Bool) (a:Act) (w:AR),Pl F P ops Q fuel listed a w->wpOpsIn F 0 P ops Q (Region.linearise.go .any ops fuel t listed []) a w:=by
 intro fuel
 induction fuel with
 |zero=>intro t listed a w h;simpa[Region.linearise.go,wpOpsIn] using h.2
 |succ fuel ih=>
  intro t listed a w h;let⟨h0,h1⟩:=h;simp only[Region.linearise.go];change wpOpsIn F 0 P ops Q (match(Region.ready .any ops listed)[t%(Region.ready .any ops listed).length]? with
   |some i=>Region.linearise.go .any ops fuel (t/(Region.ready .any ops listed).length) (listed.setIfInBounds i true) [i]
   |none=>[].reverse) a w
  cases hi:(Region.ready .any ops listed)[t%(Region.ready .any ops listed).length]? with
  |none=>
   have Ul:Region.ready .any ops listed=[]:=by
    cases hr:Region.ready .any ops listed with
    |nil=>rfl
    |cons x xs=>rw[hr] at hi;have hlt:t%(x::xs).length<(x::xs).length:=OS _ (by simp);simp at hi;simp at hlt;omega
   simpa[wpOpsIn] using h0 Ul
  |some i=>simp[];rw[linearise_go_acc,List.reverse_singleton,List.singleton_append,ag3];exact agv (λa w=>ih _ _ a w)<|h1 i<|LO hi
def adq{id:Nat}{a:Act}{w:AR}(hm:P.follows .mixedOrders=true)
  (h:Pl F P ops Q ops.size (Array.replicate ops.size false) a {w with drawn:=w.drawn+1}):(Code.region id ops true).wpIn F 0 P Q a w:=
 wpIn_region_draw λt=>by simp[Region.schedule,hm,ZK,if_true];exact afY ops.size t _ a _ h
end
section
variable[D:DR]
variable{P:Program}{N:Nat}{ops:Array Oper}{Γ An:Ctx}
variable{listed:BA Bool}{i:Nat}{av:A3 (A3 Nat)}{Q:Exit->Act->AR->Prop}{k:Nat}{S:A3 Ctx}{a:Act}{w:AR}{c:Ctx}{Dr:A3 (A3 Nat)}{Dq:A3 Bool}{kl:A3 (A3<|Nat×A3 Nat)}{L:A3 Nat}{Fy:Ctx}{ts:A3 Nat}{w0:Aj P}{H0:HV}
def De(listed:BA Bool)(i:Nat):Prop:=listed.getD i false=true
def aaV(h:i<listed.size):listed.getD i true=listed.getD i false:=by simp[h]
def Vj(hs:listed.size=ops.size):i∈Region.ready .any ops listed↔∃o,ops[i]? =some o/\ ¬De listed i/\∀e∈SN o,De listed e.on:=by
 simp only[Region.ready,JJ,Qg];constructor
 ·rintro⟨hi,h⟩;have hi':i<listed.size:=hs▸hi;rw[aaV hi'] at h;simp[C6,GA] at h;let⟨h1,h2⟩:=h;refine⟨ops[i],by simp[hi],by simp[De];simpa using h1,?_⟩;simp only[hi,getElem?_pos,Pf,ZW] at h2;intro e he;have:=Array.all_eq_true'.1 h2 e (by simpa using(JJ.1 he).1);have hb:=(JJ.1 he).2;simp[hb] at this;simpa[De] using this
 ·rintro⟨o,ho,hl,he⟩;have hi:i<ops.size:=(SV.1 ho).1;have hi':i<listed.size:=hs▸hi;refine⟨hi,?_⟩;rw[aaV hi'];simp only[C6,GA,ho,Pf,ZW];refine⟨by simpa[De] using hl,?_⟩;rw[Array.all_eq_true'];intro e hm;by_cases hb:Region.binds .any e=true
  ·have:=he e (JJ.2 ⟨by simpa using hm,hb⟩);simp[De] at this;simp[this]
  ·simp at hb;simp[hb]
def Ql{j:Nat}(hi:i<listed.size):De (listed.setIfInBounds i true) j↔(j=i\/De listed j):=by
 simp[De,UM];by_cases e:i=j
 ·subst e;simp[hi]
 ·rw[Array.getElem?_setIfInBounds_ne e];constructor
  ·exact λh=> .inr h
  ·rintro(h|h)
   ·exact absurd h.symm e
   ·exact h
def unl(listed:BA Bool):Nat:=listed.toList.count false
def zg(hi:i<listed.size)(hn: ¬De listed i):unl (listed.setIfInBounds i true)+1=unl listed:=by
 have hf:listed.toList[i]'(by simpa using hi)=false:=by simp[De,hi] at hn;simpa using hn
 have hpos:0<listed.toList.count false:=List.count_pos_iff.2 (by rw[<-hf];exact Ly _);simp only[unl,im];rw[List.count_set (by simpa using hi),hf];simp only[beq_self_eq_true,if_true];have:(true==false)=false:=rfl;rw[this];simp only[UE,if_false];omega
def yE(h:unl listed=0)(hi:i<listed.size):De listed i:=by
 have:=List.count_eq_zero.1 h;have hm:listed[i]∈listed.toList:=by simp
 simp[De,hi,UM,getElem?_pos,ZW];cases hb:listed[i]
 ·rw[hb] at hm;exact absurd hm this
 ·rfl
theorem aab(Kz:Nw ops av=true){o:Oper}(ho:ops[i]? =some o){e:Edge}(he:e∈SN o):e.on<i:=by grind [Nw,SN]
def ko{n m:Nat}: ¬De (Array.replicate n false) m:=by simp[De,UM,Array.getElem?_replicate];split<;>simp
def wK(Kz:Nw ops av=true)(hs:listed.size=ops.size)(hi:i<ops.size)(hn: ¬De listed i):Region.ready .any ops listed≠[]:=by
 have key:∀m,∀i,i<=m->i<ops.size-> ¬De listed i->∃j,j∈Region.ready .any ops listed:=by
  intro m
  induction m with
  |zero=>
   intro i him hi hn;have:i=0:=by omega
   subst this;refine⟨0,(Vj hs).2 ⟨ops[0],by simp[hi],hn,?_⟩⟩;intro e he;have:=aab Kz (i:=0) (o:=ops[0]) (by simp[hi]) he;omega
  |succ m ih=>
   intro i him hi hn;by_cases hall:∀e∈SN ops[i],De listed e.on
   ·exact⟨i,(Vj hs).2 ⟨ops[i],by simp[hi],hn,hall⟩⟩
   ·have⟨e,he,hne⟩:∃e,e∈SN ops[i]/\ ¬De listed e.on:=by apply Cr;intro hc;exact hall λe he=>Cr λh=>hc ⟨e,he,h⟩
    have:=aab Kz (i:=i) (o:=ops[i]) (by simp[hi]) he;exact ih e.on (by omega) (by omega) hne
 let⟨j,hj⟩:=key i i (BM _) hi hn;intro e;rw[e] at hj;cases hj
def oL(Kz:Nw ops av=true)(hs:listed.size=ops.size)(hc:∀m,De listed m->∀j∈av.getD m [],De listed j)(hi:i∈Region.ready .any ops listed):∀j∈av.getD i [],De listed j:=by
 let⟨o,ho,hn,he⟩:=(Vj hs).1 hi;have hlt:=(SV.1 ho).1;have:=Dk.1 Kz i (by simp[hlt]);simp only[ho,C6,Dk,iM] at this;intro j hj;let⟨e,he',hx⟩:=this.2 j hj;simp[Qh,QZ,UH] at hx;rcases hx with hx|hx
 ·exact hx▸he e he'
 ·exact hc e.on (he e he') j hx
def alU{rd:AA Nat}{o:Oper}{K:Act->AR->Prop}(ho:ops[i]? =some o)(IU:∀c,o.op≠ .defer c)
 (h:if Region.wanted o (yielded ops a.tmps) then o.wp P a w K Q else K (a.put o.dst undef) w):Qv (Fh rd) P ops Q i K a w:=by
 unfold Qv;simp[ho];split
 ·rename_i hw;rw[if_pos hw] at h;exact Z9 IU h
 ·rename_i hw;rw[if_neg hw] at h;exact⟨λ_ _=>trivial,h⟩
def aiF{F:Fence}(hq:Q .normal a w)(fuel:Nat)(listed:BA Bool)(hsz:listed.size=ops.size)(hL:∀j,j<ops.size->De listed j):Pl F P ops Q fuel listed a w:=by
 have hr:Region.ready .any ops listed=[]:=by apply List.eq_nil_iff_forall_not_mem.2;intro i hi;let⟨o,ho,hn,_⟩:=(Vj hsz).1 hi;exact hn<|hL i (SV.1 ho).1
 cases fuel with
 |zero=>exact⟨hr,hq⟩
 |succ f=>exact⟨λ_=>hq,λi hi=>by rw[hr] at hi;cases hi⟩
def ah1{F:Fence}(Kz:Nw ops av=true)(KS:Qm ops k av=true):∀(l:A3 Oper)
  (i fuel:Nat) (listed:BA Bool) (a:Act) (w:AR),l=ops.toList.drop i->k<=i->i<=ops.size->listed.size=ops.size->(∀j,j<ops.size->(De listed j↔j<i))->(∀m,De listed m->∀j∈av.getD m [],De listed j)->unl listed<=fuel->wpListIn F 0 P ops Q l a w->Pl F P ops Q fuel listed a w:=by
 intro l
 induction l with
 |nil=>
  intro i fuel listed a w hl hki hi hsz hL hc hu hw;have:ops.size<=i:=by simpa using List.drop_eq_nil_iff.1 hl.symm
  exact aiF hw fuel listed hsz (λj hj=>(hL j hj).2 (by omega))
 |cons o l ih=>
  intro i fuel listed a w hl hki hi hsz hL hc hu hw;have Sz:i<ops.size:=by apply Cr;intro Ld;rw[List.drop_eq_nil_of_le (by simp<;>omega)] at hl;cases hl
  have hnl: ¬De listed i:=λh=>by have:=(hL i Sz).1 h;omega
  have ho:ops[i]? =some o:=by
   have:(ops.toList.drop i)[0]? =some o:=by rw[<-hl];rfl
   simpa using this
  have hl':l=ops.toList.drop (i+1):=by have:=congrArg List.tail hl;simpa using this
  have hne:=wK Kz hsz Sz hnl;have only:∀j∈Region.ready .any ops listed,j=i:=by
   intro j hj;let⟨o',K1,hn,_⟩:=(Vj hsz).1 hj;have acg:=(SV.1 K1).1;have hji:i<=j:=by apply Cr;intro hlt;exact hn ((hL j acg).2 (by omega))
   have au5:=oL Kz hsz hc hj;simp[Qm,C6,Dk,Qg,Qh,WJ,UH] at KS;rcases KS.2 j acg with hx|hx
   ·omega
   ·apply Cr;intro hne;have:=(hL i Sz).1 (au5 i (hx i (by omega)));omega
  cases fuel with
  |zero=>exact absurd (yE (by omega)<|hsz▸Sz) hnl
  |succ f=>
   refine⟨λe=>absurd e hne,λj hj=>?_⟩;have hji:=only j hj;subst hji;have IM:j<listed.size:=hsz▸Sz;have next:∀a' w',wpListIn F 0 P ops Q l a' w'->Pl F P ops Q f (listed.setIfInBounds j true) a' w':=by
    intro a' w' hw';refine ih (j+1) f _ a' w' hl' (by omega) (by omega) (by simp[hsz]) ?_ ?_ ?_ hw'
    ·intro m hm;rw[Ql IM,hL m hm];omega
    ·intro m hm x hx;rw[Ql IM] at hm⊢;rcases hm with hm|hm
     ·subst hm;exact .inr<|oL Kz hsz hc hj x hx
     ·exact .inr<|hc m hm x hx
    ·have:=zg IM hnl;omega
   unfold wpListIn at hw;unfold Qv;simp[ho];split
   ·rename_i hwt;rw[if_pos hwt] at hw;exact vA next hw
   ·rename_i hwt;rw[if_neg hwt] at hw;exact⟨hw.1,next _ _ hw.2⟩
def other(listed:BA Bool)(S:A3 Ctx)(k lo:Nat)(t:Nat):Bool:=(List.range k).all λj=> !(decide (lo<=j)&&listed.getD j false)||(S.getD j []).all λq=>q.1 !=t
def Ui(listed:BA Bool)(S:A3 Ctx)(k:Nat)(Γ:Ctx):Ctx:=
 ((List.range k).flatMap λj=>if listed.getD j false=true then(S.getD j []).filter (λq=>other listed S k (j+1) q.1) else [])++Γ.filter λq=>other listed S k 0 q.1
theorem fN{lo t:Nat}:other listed S k lo t=true↔∀j c,lo<=j->j<k->De listed j->S[j]? =some c->∀q∈c,q.1≠t:=by grind [other,De]
def Tq{Γ:Ctx}{q:Nat×AQ}:q∈Ui listed S k Γ↔(∃j c,j<k/\De listed j/\S[j]? =some c/\q∈c/\∀j' c',j<j'->j'<k->De listed j'->S[j']? =some c'->∀q'∈c',q'.1≠q.1)\/(q∈Γ/\∀j c',j<k->De listed j->S[j]? =some c'->∀q'∈c',q'.1≠q.1):=by
 simp only[Ui,Bs,Lx,Qg,JJ];constructor
 ·rintro(⟨j,hj,h⟩|⟨h1,h2⟩)
  ·left;split at h
   ·rename_i hl;let⟨h1,h2⟩:=JJ.1 h;rw[fN] at h2;cases hc:S[j]? with
    |none=>rw[JL,hc] at h1;cases h1
    |some c=>rw[JL,hc] at h1;exact⟨j,c,hj,hl,hc,h1,λj' c' h3 h4 h5 h6=>h2 j' c' h3 h4 h5 h6⟩
   ·cases h
  ·right;rw[fN] at h2;exact⟨h1,λj c' h3 h4 h5=>h2 j c' (FY _) h3 h4 h5⟩
 ·rintro(⟨j,c,hj,hl,hc,hq,hm⟩|⟨h1,h2⟩)
  ·left;refine⟨j,hj,?_⟩;have hl':listed.getD j false=true:=hl;rw[if_pos hl'];exact JJ.2 ⟨by rw[JL,hc];exact hq,fN.2 λj' c' h3 h4 h5 h6=>hm j' c' h3 h4 h5 h6⟩
  ·exact .inr ⟨h1,fN.2 λj c' _ h3 h4 h5=>h2 j c' h3 h4 h5⟩
def Kl(c:Ctx):A3 (Nat×A3 Nat):=c.map λp=>(p.1,p.2.CA)
def yz{p:Nat×AQ}(h:p∈c):(p.1,p.2.CA)∈Kl c:=BR.2 ⟨p,h,rfl⟩
theorem Vt{p:Nat×AQ}{l:A3 Nat}(h:p∈c)(hl:p.1∈l):meets (Kl c) l=true:=by(simp_all [meets,Kl]<;>grind)
theorem xo{t:Nat}(h:meets (Kl c) [t]=true):t∈c.map (·.1):=by grind [meets,Kl]
def aol{m:Nat}(h:De listed m):m<listed.size:=by apply Cr;intro Ld;simp[De,UM,ie<|qK Ld] at h
def ago{Γ:Ctx}(Ax:Js (ops.toList.take k)=true)(Kz:Nw ops av=true)(IU:T4 k kl Dr Dq L av=true)(hkn:k<=ops.size)(Uk:∀i,k<=i->i<ops.size->∀j,j<k->j∈av.getD i [])
 (K2:S.reverse.map Kl=kl)(hL:OX Γ=L)
 (hp:Er P N ops Γ [] (ops.toList.take k) Dr Dq S)(Kn:ES (S.flatten++Γ) ts Fy)
 (KX:∀(fuel:Nat) (listed:BA Bool) (a:Act) (w:AR) (H:HV),listed.size=ops.size->(∀j,j<ops.size->(De listed j↔j<k))->(∀m,De listed m->∀j∈av.getD m [],De listed j)->unl listed<=fuel->Sat w0 H0 N Fy a w H->Pl (Fh w0.rd) P ops Q fuel listed a w):∀(fuel:Nat) (listed:BA Bool) (a:Act) (w:AR) (H:HV),listed.size=ops.size->(∀m,De listed m->∀j∈av.getD m [],De listed j)->(∀i,k<=i->i<ops.size-> ¬De listed i)->unl listed<=fuel->Sat w0 H0 N (Ui listed S.reverse k Γ) a w H->Pl (Fh w0.rd) P ops Q fuel listed a w:=by
 let⟨⟨S',hS',hlen⟩,hnl,KU,hat⟩:=hp.at_;have hSl:S.length=k:=by rw[hS'];simp[hlen,hkn]
 have aop:Dr.length=k:=by rw[hnl];simp[hkn]
 have aqe:Dq.length=k:=by rw[KU];simp[hkn]
 have key:∀j c,S.reverse[j]? =some c->kl.getD j []=Kl c:=by
  intro j c h;rw[<-K2,JL,H9,h]
  rfl
 simp only[T4,C6] at IU;let⟨hc1,HG⟩:=IU;have tC:∀i j (ci cj:Ctx),i<j->j<k->S.reverse[i]? =some ci->S.reverse[j]? =some cj->((∃p∈ci,p.1∈Dr.getD j [])\/(∃p∈ci,∃q∈cj,p.1=q.1)\/(∃p∈cj,p.1∈Dr.getD i []))->i∈av.getD j []:=by
  intro i j ci cj KW hj h1 h2 h3;simp only[Dk,Qg,Qh,GA,UH] at hc1;rcases hc1 j hj i KW with h|h
  ·rw[key i ci h1,key j cj h2] at h;simp only[MW] at h;exfalso;rcases h3 with⟨p,hp,h3⟩|⟨p,hp,q,hq,h3⟩|⟨p,hp,h3⟩
   ·have:=Vt hp h3;rw[h.1.1] at this;cases this
   ·have:=Vt (l:=(Kl cj).map (·.1)) hp (by rw[h3];exact BR.2 ⟨_,yz hq,rfl⟩);rw[h.1.2] at this;cases this
   ·have:=Vt hp h3;rw[h.2] at this;cases this
  ·exact h
 have lean:∀j (cj:Ctx),j<k->Dq.getD j true=true->S.reverse[j]? =some cj->∀p∈cj.take 1,(p.1∉L)/\∀i (ci:Ctx),i<k->S.reverse[i]? =some ci->∀q∈ci,p.1∈q.2.CA->(i≠j/\(q.1∈cj.map (·.1)\/j∈av.getD i []\/∃m,m∈av.getD j []/\i<m/\meets (kl.getD m []) [q.1]=true))\/(i=j/\∀p'∈cj.take 1,p'.1≠q.1):=by
  intro j cj hj hpj h1 p hp;have tk:(Kl cj).take 1=Kl (cj.take 1):=by simp[Kl,qT]
  simp only[Dk,Qg,Qh,GA,C6] at HG;rcases HG j hj with h|⟨h2,h3⟩
  ·rw[hpj] at h;cases h
  ·rw[key j cj h1,tk] at h2;refine⟨(λhm=>by have:=Vt hp hm;rw[h2] at this;cases this),λi ci hi h4 q hq h5=>?_⟩;have h6:=h3 i hi (q.1,q.2.CA) (by rw[key i ci h4];exact yz hq);have h6:=h6 p.1 h5;simp only[Qh,GA,C6,MM,ne_eq,UH] at h6;rcases h6 with(h6|⟨h6,(h7|h7)|h7⟩)|⟨h6,h7⟩
   ·have:=Vt (l:=[p.1]) hp (by simp);rw[key j cj h1,tk] at h6;rw[h6] at this;cases this
   ·refine .inl ⟨h6,.inl ?_⟩;rw[key j cj h1] at h7;exact xo h7
   ·exact .inl ⟨h6,.inr<| .inl h7⟩
   ·let⟨m,hm,h8⟩:=iM.1 h7;simp[C6,WJ] at h8;exact .inl ⟨h6,.inr<| .inr ⟨m,hm,h8.1,h8.2⟩⟩
   ·refine .inr ⟨by simpa using h6,λp' hp' e=>?_⟩;rw[key j cj h1,tk] at h7;have:=Vt (l:=[q.1]) hp' (by simp[e]);rw[h7] at this;cases this
 have pure:∀i o,i<k->ops[i]? =some o->∃c,S.reverse[i]? =some c/\abf P N ops Γ (Dr.getD i []) (Dq.getD i true) S.reverse i o c:=by
  intro i o hi ho;have e1:Dr[i]? =some (Dr.getD i []):=by simp[JL,aop,hi]
  have e2:Dq[i]? =some (Dq.getD i true):=by simp[JL,aqe,hi]
  let⟨p,h1,h2⟩:=hat i o _ _ (by rw[List.getElem?_take_of_lt hi];simpa using ho) e1 e2;exact⟨p,by simpa using h1,by simpa using h2⟩
 have toTail:∀(fuel:Nat) (listed:BA Bool) (a:Act) (w:AR) (H:HV),listed.size=ops.size->(∀m,De listed m->∀j∈av.getD m [],De listed j)->(∀i,k<=i->i<ops.size-> ¬De listed i)->unl listed<=fuel->(∀j,j<k->De listed j)->Sat w0 H0 N (Ui listed S.reverse k Γ) a w H->Pl (Fh w0.rd) P ops Q fuel listed a w:=by
  intro fuel listed a w H hsz hc K2 hu hall BF;refine KX fuel listed a w H hsz ?_ hc hu<|BF.weaken ?_
  ·intro j hj;constructor
   ·intro h;apply Cr;intro Ld;exact K2 j (by omega) hj h
   ·exact hall j
  ·intro q hq;have hat:=ng (S:=S.reverse) (λj _=>rfl)<|Kn.looks q hq
   rw[hSl] at hat;rw[Tq];rcases hat with⟨j,c,hj,h1,h1',h2⟩|⟨h1,h2⟩
   ·exact .inl ⟨j,c,hj,hall j hj,h1,h1',λj' q' h3 h4 _ h5=>h2 j' q' h3 h4 h5⟩
   ·exact .inr ⟨h1,λj q' h3 _ h5=>h2 j q' h3 h5⟩
 intro fuel
 induction fuel with
 |zero=>intro listed a w H hsz hc K2 hu BF;exact toTail 0 listed a w H hsz hc K2 hu (λj hj=>yE (by omega) (by omega)) BF
 |succ f ih=>
  intro listed a w H hsz hc K2 hu BF;by_cases hall:∀j,j<k->De listed j
  ·exact toTail (f+1) listed a w H hsz hc K2 hu hall BF
  ·have⟨j0,hj0,hn0⟩:∃j,j<k/\ ¬De listed j:=by apply Cr;intro au3;exact hall λj hj=>Cr λh=>au3 ⟨j,hj,h⟩
   refine⟨λe=>absurd e (wK Kz hsz (by omega) hn0),λi hi=>?_⟩;let⟨o,ho,hni,_⟩:=(Vj hsz).1 hi;have Sz:=(SV.1 ho).1;have hil:i<listed.size:=hsz▸Sz;have kN:=oL Kz hsz hc hi;by_cases hik:i<k
   ·let⟨c,hp1,hp2⟩:=pure i o hik ho;let⟨Ai,hex,BE⟩:=hp2.exec;have hin:∀q∈Ai,q∈Ui listed S.reverse k Γ:=by
     intro q hq;let⟨hm,hx⟩:=BE q hq;have up:∀j' c',i<=j'->j'<k->De listed j'->S.reverse[j']? =some c'->∀q'∈c',q'.1≠q.1:=by
      intro j' c' h3 h4 h5 h6 q' hq' e;rcases Nat.lt_or_eq_of_le h3 with h3|h3
      ·have:=tC i j' c c' h3 h4 hp1 h6 (.inr<| .inr ⟨q',hq',e▸hm⟩);exact hni<|hc j' h5 i this
      ·subst h3;exact hni h5
     refine Tq.2 ?_;rcases hx with⟨j,cj,hj,hqj,hqc,NG⟩|⟨hx,NG⟩
     ·refine .inl ⟨j,cj,by omega,kN j<|tC j i cj c hj hik hqj hp1<| .inl ⟨q,hqc,hm⟩,hqj,hqc,λj' c' h3 h4 h5 h6=>?_⟩;rcases Hk j' i with h7|h7
      ·exact NG j' c' h3 h7 h6
      ·exact up j' c' h7 h4 h5 h6
     ·refine .inr ⟨hx,λj' c' h4 h5 h6=>?_⟩;rcases Hk j' i with h7|h7
      ·exact NG j' c' h7 h6
      ·exact up j' c' h7 h4 h5 h6
    have KF:Dq.getD i true=true->∀q∈Ui listed S.reverse k Γ,q.1∉c.map (·.1)->∀p∈c.take 1,p.1∉q.2.CA:=by
     intro hpt q hq hnk p hp e;let⟨l1,l2⟩:=lean i c hik hpt hp1 p hp;rcases Tq.1 hq with⟨j,cj,hj,hlj,hqj,hqc,NG⟩|⟨hq,_⟩
     ·rcases(l2 j cj hj hqj q hqc e).resolve_right (λh=>by obtain⟨rfl,_⟩:=h;exact hni hlj)|>.2 with h|h
      ·exact hnk h
      ·rcases h with h|⟨m,hm,him,hme⟩
       ·exact hni<|hc j hlj i h
       ·have hlm:=kN m hm;have hmk:m<k:=by apply Cr;intro Ld;exact K2 m (by omega) (hsz▸aol hlm) hlm
        let⟨cm,hcm,_⟩:=pure m ops[m] hmk (by simp<;>omega);rw[key m cm hcm] at hme;let⟨y,hy1,hy2⟩:=BR.1<|xo hme
        exact NG m cm (by omega) hmk hlm hcm y hy1 hy2
     ·exact l1<|hL▸w6 hq e
    have ai:Dq.getD i true=true->∀q∈c.take 1,∀p∈c.take 1,p.1∉q.2.CA:=by
     intro hpt q hq p hp e;rcases(lean i c hik hpt hp1 p hp).2 i c hik hp1 q (Qk hq) e with h|h
     ·exact h.1 rfl
     ·exact h.2 q hq rfl
    let⟨Γn,Et,jX⟩:=hex _ hin KF ai;refine alU ho (nO Ax (LO (i:=i) (by rw[List.getElem?_take_of_lt hik];simpa using ho)))<|Et w0 H0 a w H BF _ Q λa' w' H' KT=>?_
    refine ih _ _ w' H' (by simp[hsz]) ?_ ?_ ?_<|KT.weaken ?_
    ·intro m hm x hx;rw[Ql hil] at hm⊢;rcases hm with hm|hm
     ·subst hm;exact .inr<|kN x hx
     ·exact .inr<|hc m hm x hx
    ·intro m hm1 hm2;rw[Ql hil];rintro(h|h)
     ·omega
     ·exact K2 m hm1 hm2 h
    ·have:=zg hil hni;omega
    ·intro q hq;refine jX q ?_;rcases Tq.1 hq with⟨j,cj,hj,hlj,hqj,hqc,NG⟩|⟨hq,NG⟩
     ·by_cases hji:j=i
      ·subst hji;rw[hp1] at hqj;cases hqj;exact Ij _ hqc
      ·have acd:De listed j:=by
        rw[Ql hil] at hlj;rcases hlj with h|h
        ·exact absurd h hji
        ·exact h
       refine UI _ (Yu.2 ⟨Tq.2 (.inl ⟨j,cj,hj,acd,hqj,hqc,λj' q' h3 h4 h5 h6=>NG j' q' h3 h4 (by rw[Ql hil];exact .inr h5) h6⟩),λe=>?_⟩);let⟨p,hp,e⟩:=BR.1 e;rcases Hk i j with h7|h7
       ·exact hni<|hc j acd i<|tC i j c cj h7 hj hp1 hqj<| .inr<| .inl ⟨p,hp,q,hqc,e⟩
       ·exact NG i c (by omega) hik (by rw[Ql hil];exact .inl rfl) hp1 p hp e
     ·refine UI _ (Yu.2 ⟨Tq.2 (.inr ⟨hq,λj q' h4 h5 h6=>NG j q' h4 (by rw[Ql hil];exact .inr h5) h6⟩),λe=>?_⟩);let⟨p,hp,e⟩:=BR.1 e;exact NG i c hik (by rw[Ql hil];exact .inl rfl) hp1 p hp e
   ·exfalso;exact hn0 (kN j0 (Uk i (by omega) Sz j0 hj0))
def ahh{Γ:Ctx}(Ax:Js (ops.toList.take k)=true)(Kz:Nw ops av=true)(IU:T4 k kl Dr Dq L av=true)(KS:Qm ops k av=true)
 (K2:S.reverse.map Kl=kl)(hL:OX Γ=L)
 (hp:Er P N ops Γ [] (ops.toList.take k) Dr Dq S)(Kn:ES (S.flatten++Γ) ts Fy)
 (KX:∀a w H,Sat w0 H0 N Fy a w H->wpListIn (Fh w0.rd) 0 P ops Q (ops.toList.drop k) a w):∀(fuel:Nat) (listed:BA Bool) (a:Act) (w:AR) (H:HV),listed.size=ops.size->(∀m,De listed m->∀j∈av.getD m [],De listed j)->(∀i,k<=i->i<ops.size-> ¬De listed i)->unl listed<=fuel->Sat w0 H0 N (Ui listed S.reverse k Γ) a w H->Pl (Fh w0.rd) P ops Q fuel listed a w:=by
 have sL:=KS;simp[Qm,C6,Dk,Qg,Qh,WJ,UH] at sL;have hkn:k<=ops.size:=sL.1;refine ago Ax Kz IU hkn (λi hi hn j hj=>?_) K2 hL hp Kn λfuel listed a w H hsz hl hc hu hs=>ah1 Kz KS _ k fuel listed a w rfl (BM _) hkn hsz hl hc hu<|KX a w H hs
 rcases sL.2 i hn with h|h
 ·omega
 ·exact h j (by omega)
def zY{Γ:Ctx}{id:Nat}(hm:P.follows .mixedOrders=true)(Ax:Js (ops.toList.take k)=true)(Kz:Nw ops av=true)(IU:T4 k kl Dr Dq L av=true)(KS:Qm ops k av=true)
 (K2:S.reverse.map Kl=kl)(hL:OX Γ=L)
 (hp:Er P N ops Γ [] (ops.toList.take k) Dr Dq S)(Kn:ES (S.flatten++Γ) ts Fy)
 (KX:∀a w H,Sat w0 H0 N Fy a w H->wpListIn (Fh w0.rd) 0 P ops Q (ops.toList.drop k) a w)
 {H:HV}(hs:Sat w0 H0 N Γ a w H):(Code.region id ops true).wpIn (Fh w0.rd) 0 P Q a w:=by
 refine adq hm (ahh Ax Kz IU KS K2 hL hp Kn KX ops.size _ a _ H (by simp) ?_ ?_ ?_ ?_)
 ·intro m h;exact absurd h ko
 ·intro i _ hi h;exact absurd h ko
 ·simp[unl]
 ·have he:Ext w H {w with drawn:=w.drawn+1} H:=⟨⟨⟨rfl,rfl,rfl,BM _,λ_ _=>rfl⟩,H5.of<|Qb _⟩,HV.le.refl _,λ_ _=>rfl,hs.sub⟩;refine(fY hs he).weaken λq hq=>?_
  rcases Tq.1 hq with⟨j,_,_,hl,_⟩|⟨hq,_⟩
  ·exact absurd hl ko
  ·exact hq
end
section
variable[D:DR]
def Goal(P:CO)(w0:Aj P)(H0:HV)(N:Nat)(c:Code)(Q:Exit->Act->AR->Prop)(Γ:Ctx):Prop:=∀a w H,Sat w0 H0 N Γ a w H->c.wpIn (Fh w0.rd) 0 P Q a w
def EJ{P:CO}(w0:Aj P)(H0:HV)(N:Nat)(K:Act->AR->Prop)(Γ:Ctx):Prop:=∀a w H,Sat w0 H0 N Γ a w H->K a w
end
section
variable[D:DR]
variable{P:Program}{w0:Aj P}{H0:HV}{N:Nat}{Q:Exit->Act->World->Prop}{Γ An:Ctx}
variable{w:AR}{ρ:Type}{a:Act}{fn:Func}{c:Code}{r:ρ}{H:HV}{id:Nat}{ts:A3 Nat}{n:Nat}{α:Type}{rs:A3 ResultVar}{x:Code}{t:Nat}{b:Bool}{K:α->AA ρ}{args:A3 Ty}{E:Ap}{sz:Nat}{l:A3 Ty}
def A9{y:Code}(h:Goal P w0 H0 N x (Exit.then (y.wpIn (Fh w0.rd) 0 P Q) Q) Γ):Goal P w0 H0 N (.seq x y) Q Γ:=λa w H hs=>wpIn_seq<|h a w H hs
def zF{l:A3 Oper}(Ax:Js l=true)(h:JS P w0 N l.toArray l Γ An)(k:EJ w0 H0 N (Q .normal) An):Goal P w0 H0 N (.region id l.toArray false) Q Γ:=λa w H hs=>wpIn_region_lit<|h.sound Ax H0 a w H hs Q k
def aow{ops:BA Oper}{k:Nat}{S:A3 Ctx}{Fy:Ctx}(Ax:Js ops.toList=true)(kl:A3 (A3<|Nat×A3 Nat))(L:A3 Nat)(av Dr:A3 (A3 Nat))(Dq:A3 Bool)(hm:P.follows .mixedOrders=true)(hc:(Nw ops av&&T4 k kl Dr Dq L av&&Qm ops k av)=true)
 (hp:Er P N ops Γ [] (ops.toList.take k) Dr Dq S)(K2:S.reverse.map Kl=kl)(hL:OX Γ=L)(Kn:ES (S.flatten++Γ) ts Fy)(KX:JS P w0 N ops (ops.toList.drop k) Fy An)(kk:EJ w0 H0 N (Q .normal) An):Goal P w0 H0 N (.region id ops true) Q Γ:=by
 simp[C6] at hc;have h1:Js (ops.toList.take k)=true:=Dk.2 λo ho=>Dk.1 Ax o<|Qk ho
 have h2:Js (ops.toList.drop k)=true:=Dk.2 λo ho=>Dk.1 Ax o<|UF ho
 exact λa w H hs=>zY hm h1 hc.1.1 hc.1.2 hc.2 K2 hL hp Kn (H0:=H0) (λa w H hs=>KX.sound h2 H0 a w H hs Q kk) hs
def AG(k:EJ w0 H0 N (Q .normal) Γ):Goal P w0 H0 N .skip Q Γ:=λa w H hs=>wpIn_skip<|k a w H hs
def AF(k:EJ w0 H0 N (Q .ret) Γ):Goal P w0 H0 N .ret Q Γ:=λa w H hs=>wpIn_ret<|k a w H hs
def Am(k:EJ w0 H0 N (Q<| .exit id) Γ):Goal P w0 H0 N (.exit id) Q Γ:=λa w H hs=>wpIn_exit<|k a w H hs
def AJ(h:Goal P w0 H0 N c (Exit.inBlock id Q) Γ):Goal P w0 H0 N (.block id c) Q Γ:=λa w H hs=>wpIn_block<|h a w H hs
def UY{y:Code}(hl:look Γ t=some (.val<|Aw b))(hx:b=true->Goal P w0 H0 N x Q Γ)(hy:b=false->Goal P w0 H0 N y Q Γ):Goal P w0 H0 N (.cond (.tmp t) x y) Q Γ:=by
 intro a w H hs;have hv:Ae a t= .bool b:=hs.holds _<|B6 hl
 exact wpIn_cond_split (t:=b) hv (λh=>hx h a w H hs)<|λh=>hy h a w H hs
def OM(h:ES Γ ts An)(k:Goal P w0 H0 N c Q An):Goal P w0 H0 N c Q Γ:=λa w H hs=>k a w H<|hs.weaken h.sub
def wp_loop_ghost{F:Fence}{ι:Type}(I:ι->Act->AR->Prop)(μ:ι->Nat)(i0:ι)(ast:I i0 a w)
 (round:∀i x y,I i x y->c.wpIn F n P (Exit.then (λa' w'=>∃j,I j a' w'/\μ j<μ i) Q) x y):(Code.loop c).wpIn F n P Q a w:=by
 intro b k cs hro hb hr;have key:∀n i a w,μ i=n->I i a w->∃e a' w',Q e a' w'/\ArrivesIn (Machine.fenced P F) P (lone (b.atR a (.code c:: .inLoop c::k)) cs w) b k cs e a' w':=by
  intro n
  induction n using Nat.strongRecOn with
  |_ n ih=>
   intro i a w hn hI;let⟨e,a1,w1,hq,T1⟩:=round i a w hI b (.inLoop c::k) cs hro hb hr;cases e with
   |normal=>let⟨j,hj,hlt⟩:=hq;let⟨e2,a2,w2,hq2,arI⟩:=ih (μ j) (hn▸hlt) j a1 w1 rfl hj;exact⟨e2,a2,w2,hq2,.of_steps (StepsIn.trans T1<| .one (fenced_calm hb hr rfl) stepR_inLoop) arI⟩
   |exit id=>exact⟨_,a1,w1,hq,.pass (x:= .inLoop c) rfl (λ_ _=> .inl (by simp)) T1⟩
   |goto l=>exact⟨_,a1,w1,hq,.pass (x:= .inLoop c) rfl (λ_ _=> .inl (by simp)) T1⟩
   |ret=>exact⟨_,a1,w1,hq,.pass (x:= .inLoop c) rfl (λ_ _=> .inl (by simp)) T1⟩
   |panic ch=>exact⟨_,a1,w1,hq,.pass (x:= .inLoop c) rfl (λ_ _=> .inl (by simp)) T1⟩
   |outgrown=>exact⟨_,a1,w1,hq,.pass (x:= .inLoop c) rfl (λ_ _=> .inl (by simp)) T1⟩
 let⟨e,a',w',hq,T1⟩:=key _ i0 a w rfl ast;exact⟨e,a',w',hq,.of_steps (.one (fenced_calm hb hr rfl) stepR_loop) T1⟩
theorem OZ(h:II w0 N Γ An)(k:Goal P w0 H0 N c Q An):Goal P w0 H0 N c Q Γ:=by grind [II,Goal]
theorem EH{K:Act->AR->Prop}(h:II w0 N Γ An)(k:EJ w0 H0 N K An):EJ w0 H0 N K Γ:=by grind [II,EJ]
def bd{α ρ:Type}(e:AA α)(K:α->AA ρ):AA ρ:=match e with
 |none=>none
 |some x=>K x
def gC{ρ:Type}(c:Bool)(K:AA ρ):AA ρ:=match c with
 |true=>K
 |false=>none
def Au{α ρ:Type}(g:Bool)(d:α)(e:AA α)(K:α->AA ρ):AA ρ:=match g with
 |true=>bd e K
 |false=>K d
def jn{α ρ:Type}(K:α->AA ρ)(E:(α->AA ρ)->AA ρ):AA ρ:=E K
def lp{σ ρ:Type}:Nat->((σ->AA ρ)->σ->AA ρ)->σ->AA ρ
 |0,_,_=>none
 |n+1,B,s=>B (lp n B) s
theorem Ay{e:AA α}(h:bd e K=some r):∃x,e=some x/\K x=some r:=by(simp_all [bd]<;>grind)
def WT{c:Bool}{K:AA ρ}(h:gC c K=some r):c=true/\K=some r:=by
 cases c
 ·cases h
 ·exact⟨rfl,h⟩
def Li{g:Bool}{d:α}{e:AA α}(h:Au g d e K=some r):∃x,(g=true->e=some x)/\K x=some r:=by
 cases g
 ·exact⟨d,(λe=>nomatch e),h⟩
 ·let⟨x,h1,h2⟩:=Ay h;exact⟨x,λ_=>h1,h2⟩
def apf{x y:AA ρ}{r:AA ρ}(h:cond b x y=r)(hb:b=true):x=r:=by subst hb;exact h
def apg{x y:AA ρ}{r:AA ρ}(h:cond b x y=r)(hb:b=false):y=r:=by subst hb;exact h
def Mid{P:CO}{α ρ:Type}(w0:Aj P)(H0:HV)(N:Nat)(JY:α->Ctx)(k:α->AA ρ)(r:ρ)(a:Act)(w:AR):Prop:=∃i,k i=some r/\∃H,Sat w0 H0 N (JY i) a w H
def SX(JY:α->Ctx){E:(α->AA ρ)->AA ρ}(hm:jn K E=some r)
 (h:∀k,E k=some r->Goal P w0 H0 N x (Exit.then (Mid w0 H0 N JY k r) Q) Γ)(kk:∀i,K i=some r->EJ w0 H0 N (Q .normal) (JY i)):Goal P w0 H0 N x Q Γ:=
 λa w H hs=>W5 (h K hm a w H hs) λe a' w' q=>by
  cases e with
  |normal=>let⟨i,hi,H',DN⟩:=q;exact kk i hi a' w' H' DN
  |_=>exact q
def arR{JY:α->Ctx}{k:α->AA ρ}{i:α}(hm:k i=some r)(h:ES Γ ts (JY i)):EJ w0 H0 N (λa w=>Mid w0 H0 N JY k r a w) Γ:=λ_ _ H hs=>⟨i,hm,H,hs.weaken h.sub⟩
def abR{σ:Type}(Ai:σ->Ctx){B:(σ->AA ρ)->σ->AA ρ}{s0:σ}(hm:lp n B s0=some r)(h0:ES Γ ts (Ai s0))
 (round:∀(k:σ->AA ρ) (s:σ),B k s=some r->Goal P w0 H0 N c (Exit.then (Mid w0 H0 N Ai k r) Q) (Ai s)):Goal P w0 H0 N (.loop c) Q Γ:=by
 intro a w H hs;refine wp_loop_ghost (λ(i:Nat×σ) a w=>lp i.1 B i.2=some r/\∃H,Sat w0 H0 N (Ai i.2) a w H) (λi=>i.1) (n,s0) ⟨hm,H,hs.weaken h0.sub⟩ ?_;rintro⟨m,s⟩ a w ⟨hl,H,hs⟩;cases m with
 |zero=>cases hl
 |succ m=>
  refine W5 (round (lp m B) s hl a w H hs) λe a' w' q=>?_
  cases e with
  |normal=>let⟨i,hi,H',DN⟩:=q;exact⟨(m,i),⟨hi,H',DN⟩,Nat.lt_succ_self m⟩
  |_=>exact q
inductive Res where
 |vs(l:A3 Ty)
 |fr(E:Ap)(sz:Nat)(l:A3 Ty)
def LS(H:HV):A3 Ty->AW->Prop
 |[τ],v=>τ.ok H v
 |l,v=>∃vs,v= .tuple vs/\Ed H l vs.toList
def Res.holds(n:Nat)(w:AR)(H:HV)(v:AW):Res->Prop
 | .vs l=>LS H l v
 | .fr E sz l=>∃xs,w.ownsRow 0 E sz v l.length xs/\DQ H l xs/\∀b,v.ownBlock=some b->n<=b/\H b=none
def Gi(P:CO)(f:FuncId):Bool:=
 match P.funcs[f]? with
 |some fn=>fn.body.isSome&& !(fn.name== "runtime.NumGoroutine")
 |none=>false
def Returns(w:AR)(H:HV)(Bm:Res)(e:Ending)(w':AR):Prop:=∃v,e= .returned v/\FV w.heap.size w w'/\∃H',(∀r,r<w.heap.size->H' r=H r)/\(∀r o,H' r=some o->w'.heap[r]? =some o)/\Bm.holds w.heap.size w' H' v
structure Eg(P:CO)(f:FuncId)(args:A3 Ty)(Bm:Res):Prop where
 can:Gi P f=true
 run:∀(w:AR) (H:HV) (vs:A3 AW),(∀r o,H r=some o->w.heap[r]? =some o)->LR P H->Ed H args vs->Calls P f vs.toArray w (Returns w H Bm)
def Eg.are{f:FuncId}{Bm:Res}(h: @Eg DR.strict P f args Bm):Eg P f args Bm:=⟨Eg.can (D:=DR.strict) h,λw H vs sub gl ha=>(Eg.run (D:=DR.strict) h w H vs sub gl ha).mono λe w' ⟨v,e1,hb,r⟩=>⟨v,e1,⟨FV.toBelow (D:=DR.strict) hb,H5.of<|FV.drawn (D:=DR.strict) hb⟩,r⟩⟩
def Hb:Nat->A3 Ty->Ctx
 |_,[]=>[]
 |i,τ::l=>(i,.val τ)::Hb (i+1) l
def eX{H:HV}{B:Aj P}{a:Act}{w:AR}:∀{l:A3 Ty} {vs:A3 AW} (i:Nat),Ed H l vs->(∀j v,vs[j]? =some v->Ae a (i+j)=v)->∀p∈Hb i l,p.2.holds B a w H (Ae a p.1)
 |[],_,_,_,_,p,hp=>by simp[Hb] at hp
 |τ::l,_,i,⟨v,rest,e,hv,hr⟩,hg,p,hp=>by
  subst e;simp[Hb,Ao] at hp;rcases hp with e|hp
  ·subst e;have:=hg 0 v rfl;simp[U8] at this;rw[this];exact hv
  ·exact eX (i+1) hr (λj v hj=>by have:=hg (j+1) v (by simpa using hj);rw[<-this];congr 1;omega) p hp
def nX{w:AR}{v:AW}{b:Nat}:∀{l:A3 Ty} {i:Nat},∀p∈Hb i l,¬p.2.owns w v b
 |[],_,p,hp=>by simp[Hb] at hp
 |τ::l,i,p,hp=>by
  simp[Hb,Ao] at hp;rcases hp with e|hp
  ·subst e;exact λh=>h
  ·exact nX p hp
theorem xx{vs:A3 AW}(sub:∀r o,H r=some o->w.heap[r]? =some o)(gl:LR P H)(Ax:Ed H args vs)(hn:args.length<=n):Sat (Aj.call P w) H n (Hb 0 args) {tmps:=vs.toArray++Array.replicate (n-vs.toArray.size) undef,defers:=[]} w H:=by
 have hl:=S4 Ax;refine⟨trivial,by simp;omega,⟨rfl,rfl,rfl,BM _,BM _,λ_ _ _ _=>rfl⟩,λ_ _ _ _=>rfl,sub,?_,?_,gl⟩
 ·refine eX 0 Ax λj v hj=>?_
  have K3:=(FP.1 hj).1;have e:(vs.toArray++Array.replicate (n-vs.toArray.size) undef)[0+j]? =some v:=by grind
  simp[Ae,UM];simp at e;rw[e];rfl
 ·intro p hp q _ _ b hb;exact absurd hb<|nX p hp
inductive AZ(P:CO)(Γ:Ctx):A3 ResultVar->A3 Ty->Prop where
 |nil:AZ P Γ [] []
 |tmp {t:Nat} {τ Gp:Ty} {rs:A3 ResultVar} {l:A3 Ty} (h:look Γ t=some (.val τ)) (hi:τ=Gp) (r:AZ P Γ rs l):AZ P Γ (.tmp t::rs) (Gp::l)
 |cell {t T:Nat} {T':Ap} {τ Gp:Ty} {rs:A3 ResultVar} {l:A3 Ty} (h:look Γ t=some (.own T' τ)) (hT:∀(w:AR) (b:Nat) (x:AW) (E:Ap),w.heap[b]? =some (.cells x.cells E (0,0))->Shape τ.n τ.agg x->(loadVar T ⟨b,0,none⟩).run P w= .ok x w)
   (hi:τ=Gp) (r:AZ P Γ rs l):AZ P Γ (.cell t T::rs) (Gp::l)
def Ya(tmps:BA AW):ResultVar->Sem AW
 | .tmp t=>pure<|tmps.getD t undef
 | .cell a t=>do loadVar t (<-asAddr (tmps.getD a undef))
theorem WY{bl:A3 Ty}{H':HV}{B:Aj P}{v:AW}(h:(AQ.buf E sz bl).holds B a w H v)(hle:HV.le H H')(hw:∀b,v.ownBlock=some b->B.ED b->∀o,w.heap[b]? =some o->H' b=some o):(G6 bl).ok H' v:=by
 let⟨xs,⟨hx,hc⟩,ho,hn⟩:=h;rcases hc with⟨e,hl⟩|⟨g,cap,cur,e,hB,hg,hcap,hm,hcs,ht⟩
 ·subst e;exact⟨none,0,by rw[hl],by omega,λhne=>absurd (LP hl) hne⟩
 ·subst e;refine⟨_,cap,rfl,hcap,λ_=>⟨g,0,cur,E,(0,0),rfl,hw g rfl (hn g rfl).2 _ hg,?_,?_⟩⟩
  ·have h1:=Mt ho;have h2:xs.length<=cur.size:=by grind
   omega
  ·have h1:=Mt ho;rw[Pe,<-h1,hx,ht];exact QP hle ho
def AZ.run{rs:A3 ResultVar}{l:A3 Ty}(h:AZ P Γ rs l){a:Act}{w:AR}{H:HV}(hs:Sat w0 H0 N Γ a w H):∃vs,(rs.mapM<|Ya a.tmps).run P w= .ok vs w/\Ed H l vs:=by
 induction h with
 |nil=>exact⟨[],by simp,rfl⟩
 | @tmp t τ Gp rs l h hi _ ih=>
  subst hi;let⟨vs,h1,h2⟩:=ih;have hv:τ.ok H (Ae a t):=hs.holds _<|B6 h
  refine⟨Ae a t::vs,?_,_,_,rfl,hv,h2⟩;simp only[List.mapM_cons,E0,h1,Ya,KB,Dn]
  rfl
 | @cell t T T' τ Gp rs l h hT hi _ ih=>
  subst hi;let⟨vs,h1,h2⟩:=ih;let⟨b,x,e,hb,hx,hn,hB⟩:=hs.holds _<|B6 h
  refine⟨x::vs,?_,_,_,rfl,hx,h2⟩;have e':a.tmps.getD t undef= .pointer (some ⟨b,0,none⟩):=e;simp[List.mapM_cons,E0,Ya,e',asAddr,KB,Dn,hT w b x T' hb<|τ.shape hx,h1]
def Qu(P:CO)(fn:Func)(w0:Aj P)(H0:HV)(Bm:Res):Exit->Act->AR->Prop:=bodyPostM (Fh none) 0 P fn<|Returns w0.w H0 Bm
def VW{w0:Aj P}{H0:HV}{N:Nat}{Γ:Ctx}{a:Act}{fn:Func}{R:Ending->AR->Prop}{F:Fence}{n:Nat}(hds:w0.ds=[])(hrd:w0.rd=none):∀{ds:A3 Deferred} {w:AR} {H:HV},Sat w0 H0 N Γ {a with defers:=ds} w H->(∀w' H',Sat w0 H0 N Γ {a with defers:=[]} w' H'->∃v,(results fn a.tmps).run P w'= .ok v w'/\R (.returned v) w')->LeavesInM F n P fn a.tmps R ds .returning w
 |[],w,H,hs,k=>k w H hs
 |d::ds,w,H,hs,k=>by
  have IU:=hs.nd;rw[hds,Ih] at IU;let⟨⟨D,e,h1,h2,h3,h4⟩,hr⟩:=IU;have h1:=h1 hrd;subst e;refine⟨(by simp),.inl ⟨D,_,rfl,run_takeDeferred h2,?_⟩⟩;refine VW hds hrd (H:=H) ?_ k;have hg:Ee w (w.putObj D<| .deferred none) (some D):=⟨⟨rfl,rfl,rfl,by simp,λj _ hj=>Zi (λe=>hj (by rw[e]))⟩,BM _⟩;have hne:∀b,b≠D->(w.putObj D<| .deferred none).heap[b]? =w.heap[b]? :=λb hb=>Zi hb
  refine Vp (a:={a with defers:={target:= .collected D,args:= #[]}::ds}) hs (hs.below.LV hg λj e=>by cases e;exact .inl h1) hg.drawn (λ_ _ _ _=>rfl) (by simp) (HV.le.refl _) ?_ ?_ ?_ ?_
  ·intro r o h;rw[hne r (λe=>by subst e;rw[h3] at h;cases h)];exact hs.sub r o h
  ·intro _ b _ hb;exact⟨hne b (λe=>by subst e;have:=Aj.lo_le (b:=w0);omega),rfl⟩
  ·intro p hp;refine⟨hp,λb hb=>⟨hne b λe=>?_,rfl⟩⟩;subst e;let⟨_,_,o,ho,K1⟩:=AQ.JH (hs.holds p hp) hb;rw[h2] at ho;cases ho;exact K1
  ·have:∀{l:A3 Deferred},(∀e∈l,e≠{target:= .collected D,args:= #[]})->Marks w0 w H l->Marks w0 (w.putObj D<| .deferred none) H l:=by
    intro l
    induction l with
    |nil=>exact λ_ _=>trivial
    |cons x l ih=>
     rintro hn ⟨⟨D',e,g1,g2,g3,g4⟩,gr⟩;have hD:D'≠D:=λeD=>hn x (by simp) (by rw[e,eD])
     exact⟨⟨D',e,g1,by rw[hne D' hD];exact g2,g3,g4⟩,ih (λy hy=>hn y (by simp[hy])) gr⟩
   rw[hds,Ih];exact this h4 hr
def YU(hr:fn.results=rs.toArray)(tmps:BA AW):results fn tmps=(do let vs<-List.toArray<$>rs.mapM (Ya tmps);pure (if h:vs.size=1 then vs[0] else .tuple vs)):=by
 unfold results;rw[hr,List.mapM_toArray]
 congr 2
def amM{Bm:A3 Ty}(hX:(w0.X,w0.J3,w0.ds,w0.rd)=(KR,false,[],none))(hr:fn.results=rs.toArray)(h:AZ P Γ rs Bm)(hs:Sat w0 H0 N Γ a w H):LeavesInM (Fh none) 0 P fn a.tmps (Returns w0.w H0<| .vs Bm) a.defers .returning w:=by
 refine VW (congrArg (λp=>p.2.2.1) hX) (congrArg (λp=>p.2.2.2) hX) (a:=a) (ds:=a.defers) hs λw H hs=>?_
 have hX':w0.X=KR:=congrArg Prod.fst hX;have hV:w0.J3=false:=congrArg (λp=>p.2.1) hX;let⟨vs,h1,h2⟩:=h.run hs;have hl:=S4 h2;rw[YU hr];simp only[E0,Sem.run_map,h1,Dn,KB];refine⟨_,rfl,_,rfl,hs.below.below hX' hV,H,(λr hr=>hs.Fe hV r hr (by rw[hX'];exact λh=>h)),hs.sub,?_⟩
 match Bm,h2,hl with
 |[],h2,hl=>have:vs=[]:=h2;subst this;exact⟨#[],rfl,rfl⟩
 |[τ],h2,hl=>let⟨v,rest,e,hv,hr⟩:=h2;have:rest=[]:=hr;subst this;subst e;exact hv
 |τ::Gp::l,h2,hl=>
  have: ¬vs.toArray.size=1:=by simp[hl]
  rw[dif_neg this];exact⟨vs.toArray,rfl,by simpa using h2⟩
def ahI{l':A3 Ty}(hX:(w0.X,w0.J3,w0.ds,w0.rd)=(KR,false,[],none))(hr:fn.results=[.tmp t].toArray)(h:look Γ t=some (.buf E sz l))(hi:l=l')(hs:Sat w0 H0 N Γ a w H):LeavesInM (Fh none) 0 P fn a.tmps (Returns w0.w H0<| .fr E sz l') a.defers .returning w:=by
 subst hi;refine VW (congrArg (λp=>p.2.2.1) hX) (congrArg (λp=>p.2.2.2) hX) (a:=a) (ds:=a.defers) hs λw H hs=>?_
 have hX':w0.X=KR:=congrArg Prod.fst hX;have hV:w0.J3=false:=congrArg (λp=>p.2.1) hX;let⟨xs,h1,h2,h3⟩:=hs.holds _<|B6 h
 rw[YU hr];refine⟨Ae a t,?_,_,rfl,hs.below.below hX' hV,H,(λr hr=>hs.Fe hV r hr (by rw[hX'];exact λh=>h)),hs.sub,xs,h1,h2,λb hb=>⟨?_,(h3 b hb).1⟩⟩
 ·simp[Ya,Ae]
 ·rcases(h3 b hb).2 with h|h
  ·exact h
  ·rw[hX'] at h;exact h.elim
def CZ{Bm:A3 Ty}(hX:(w0.X,w0.J3,w0.ds,w0.rd)=(KR,false,[],none))(hr:fn.results=rs.toArray)(h:AZ P Γ rs Bm):EJ w0 H0 N (λa w=>Qu P fn w0 H0 (.vs Bm) .ret a w) Γ:=λ_ _ _ hs=>amM hX hr h hs
def Wh{l':A3 Ty}(hX:(w0.X,w0.J3,w0.ds,w0.rd)=(KR,false,[],none))(hr:fn.results=[.tmp t].toArray)(h:look Γ t=some (.buf E sz l))(hi:l=l'):EJ w0 H0 N (λa w=>Qu P fn w0 H0 (.fr E sz l') .ret a w) Γ:=λ_ _ _ hs=>ahI hX hr h hi hs
def ah4{f:FuncId}{Bm:Res}{N:Nat}(hf:P.funcs[f]? =some fn)(hb:fn.body=some c)(hN:fn.ntmps=N)(hn:args.length<=N)(hc:Gi P f=true)
 (h:∀w0 H0,Goal P (Aj.call P w0) H0 N c (Qu P fn (Aj.call P w0) H0 Bm)<|Hb 0 args):Eg P f args Bm:=by
 subst hN;exact⟨hc,λw H _ sub gl Ax=>(callsIn_wide (n:=0)).1<|callsIn_of_wp_marks (F:=Fence.wide) hf hb trivial<|h w H _ w H<|xx sub gl Ax hn⟩
end
section
variable[D:DR]
variable{P:Program}{N:Nat}{ops:Array Oper}{Γ An:Ctx}
variable{s:AQ}{τ:Ty}
def MG{o:Oper}(h:∀(w0:Aj P) (H0:HV) (N:Nat) (a:Act) (w:AR) (H:HV),Sat w0 H0 N Γ a w H->∃v w' H',(execOp a.eval o).run P w= .ok (.value v) w'/\Ext w H w' H'/\s.holds w0 a w' H' v/\∀b,s.owns w' v b->w.heap.size<=b):Az P Γ o s:=by intro w0 H0 N a w H hs K Q k;let⟨v,w',H',hr,he,hv,hb⟩:=h w0 H0 N a w H hs;unfold Oper.wp;rw[hr,OV];exact k v w' H' he hv hb
def Dj{o:Oper}(h:∀(w0:Aj P) (H0:HV) (N:Nat) (a:Act) (w:AR) (H:HV),Sat w0 H0 N Γ a w H->∃v,(execOp a.eval o).run P w= .ok (.value v) w/\s.holds w0 a w H v/\s.free=true):Az P Γ o s:=
 MG λw0 H0 N a w H hs=>by let⟨v,hr,hv,hb⟩:=h w0 H0 N a w H hs;exact⟨v,w,H,hr,Ext.refl hs.sub,hv,λb e=>absurd e<|AQ.free_spec hb⟩
def ait{o:Oper}(h:∀(w0:Aj P) (H0:HV) (N:Nat) (a:Act) (w:AR) (H:HV),Sat w0 H0 N Γ a w H->∃v,(execOp a.eval o).run P w= .ok (.value v) w/\s.holds w0 a w H v/\∀b,¬s.owns w v b):Az P Γ o s:=
 MG λw0 H0 N a w H hs=>by let⟨v,hr,hv,hb⟩:=h w0 H0 N a w H hs;exact⟨v,w,H,hr,Ext.refl hs.sub,hv,λb e=>absurd e<|hb b⟩
structure Arg(Γ:Ctx)(x:CH)(τ:Ty):Prop where
 ok:∀{P':CO} {w0:Aj P'} {H0:HV} {N:Nat} {a:Act} {w:AR} {H:HV},Sat w0 H0 N Γ a w H->τ.ok H (a.eval x)
def Arg.t{t:Nat}{τ:Ty}(h:look Γ t=some (.val τ)):Arg Γ (.tmp t) τ:=⟨λhs=>hs.holds _<|B6 h⟩
def Arg.o{t:Nat}{c:Bool}(h:look Γ t=some (.opt c<| .val τ))(hc:c=true):Arg Γ (.tmp t) τ:=⟨λhs=>(hs.holds _<|B6 h).1 hc⟩
def Arg.int{k:IntKind}{n:Int}:Arg Γ (.const<| .int k n) (TI k n):=⟨λ_=>rfl⟩
def Arg.bool{b:Bool}:Arg Γ (.const<| .bool b) (Aw b):=⟨λ_=>rfl⟩
def Arg.abn:Arg Γ (.const<| .slice none 0 0) (G6 []):=⟨λ_=>⟨none,0,rfl,BM _,λh=>absurd rfl h⟩⟩
def Arg.imp{x:CH}{Gp:Ty}(h:Arg Γ x τ)(hi:∀H v,τ.ok H v->Gp.ok H v):Arg Γ x Gp:=⟨λhs=>hi _ _<|h.ok hs⟩
end
section
variable[D:DR]
variable{P:Program}{N:Nat}{ops:Array Oper}{Γ An:Ctx}
variable{d:Option Tmp}{ty:TypeId}{pos:String}{af:Array Edge}{g:Option (Nat×Bool)}
variable{T:Ap}{τ:Ty}{t sz off:Nat}{x:CH}{l:A3 Ty}{b:Bool}{σ:Ty}{k:IntKind}{i:Int}{n:Nat}{T':Ap}{len:Nat}{c:CH}{w:AR}{cs:BA AW}{t' o:Nat}{H:HV}{ix:CH}
def gi(h:Arg Γ x τ):Az P Γ ⟨d,.move x,ty,pos,af,g⟩ (.val τ):=Dj λ_ _ _ a _ _ hs=>⟨a.eval x,rfl,h.ok hs,rfl⟩
def BO(h:Arg Γ x τ):Az P Γ ⟨d,.assign x,ty,pos,af,g⟩ (.val τ):=Dj λ_ _ _ a _ _ hs=>⟨a.eval x,rfl,h.ok hs,rfl⟩
def Mr(h:look Γ t=some (.La l)):Az P Γ ⟨d,.move<| .tmp t,ty,pos,af,g⟩ (.La l):=Dj λ_ _ _ a _ _ hs=>⟨Ae a t,rfl,hs.holds _<|B6 h,rfl⟩
def GL{i:Nat}(h:look Γ t=some (.La l))(hi:l[i]? =some τ):Az P Γ ⟨d,.extract (.tmp t) i,ty,pos,af,g⟩ (.val τ):=
 Dj λ_ _ _ a w _ hs=>by
  let⟨vs,e,ho⟩:=hs.holds _<|B6 h
  let⟨v,hv,Ax⟩:=ab8 ho hi;have e':a.eval (.tmp t)= .tuple vs:=e;refine⟨v,?_,Ax,rfl⟩;have Jd:vs[i]? =some v:=by simpa using hv
  simp[execOp,e',Instr.extract,Jd]
def gh{y:CH}(hc:Arg Γ c (Aw b))(hx:b=true->Arg Γ x τ)(hy:b=false->Arg Γ y τ):Az P Γ ⟨d,.pick c x y,ty,pos,af,g⟩ (.val τ):=
 Dj λ_ _ _ a w H hs=>by
  have e:a.eval c= .bool b:=hc.ok hs;refine⟨if b then a.eval x else a.eval y,?_,?_,rfl⟩
  ·simp[execOp,e,asBool]
  ·cases b
   ·simpa[AQ.holds] using(hy rfl).ok hs
   ·simpa[AQ.holds] using(hx rfl).ok hs
def Cj(h:b=true):gd b true=true:=h
def D5(h:b=false):gd b false=true:=by subst h;rfl
def Oo{c:Bool}(h:b=true)(k:c=true):(b&&c)=true:=by subst h;subst k;rfl
def Ci{e x:Bool}(hc:Arg Γ c (Aw b))(hx:look Γ t=some (.opt e<| .val<|Aw x))(he:b=true->e=true):Az P Γ ⟨d,.pick c (.tmp t)<| .const<| .bool false,ty,pos,af,g⟩ (.val<|Aw<|b&&x):=by
 cases b
 ·exact gh hc (λh=>by cases h)<|λ_=>Arg.bool
 ·exact gh hc (λ_=>by simpa using Arg.o hx (he rfl)) (λh=>by cases h)
def D4{e x:Bool}(hc:Arg Γ c (Aw b))(hx:look Γ t=some (.opt e<| .val<|Aw x))(he:b=false->e=true):Az P Γ ⟨d,.pick c (.const<| .bool true)<| .tmp t,ty,pos,af,g⟩ (.val<|Aw (b||x)):=by
 cases b
 ·exact gh hc (λh=>by cases h) (λ_=>by simpa using Arg.o hx (he rfl))
 ·exact gh hc (λ_=>Arg.bool) (λh=>by cases h)
def avD:TypeDesc->Bool
 | .struct _| .array _ _=>true
 |_=>false
def Bq(P:CO)(T:Ap)(n:Nat)(agg:Bool):Bool:=
 match P.info? T,P.underlying T with
 |some i,some d=>Nat.beq i.size n&&(avD d==agg)&&(agg||Nat.beq n 1)
 |_,_=>false
def Ev{d:TypeDesc}(h:P.underlying T=some d)(w:AR):(underlying T).run P w= .ok d w:=by simp[underlying,program,Sem.run,h]
theorem yx{agg:Bool}(h:Bq P T n agg=true):(∀w,(isAgg T).run P w= .ok agg w)/\(∀w,(Go.sizeOf T).run P w= .ok n w)/\(agg=false->n=1):=by
 unfold Bq at h;split at h
 ·rename_i i dd hi hu;simp only[C6,Qh,QZ] at h;let⟨⟨h1,h2⟩,h3⟩:=h;have h1:=EA h1;refine⟨λw=>?_,λw=>?_,λhf=>?_⟩
  ·simp[isAgg,E0,Ev hu,Dn];subst h2;cases dd<;>rfl
  ·simp[Go.sizeOf,typeInfo,program,Sem.run,hi];simp[h1]
  ·rcases h3 with h3|h3
   ·grind
   ·exact EA h3
 ·cases h
theorem RQ{agg:Bool}(h:Bq P T n agg=true){b:Nat}{E:Ap}{fr:Nat×Nat}(hb:w.heap[b]? =some (.cells cs E fr))(hl:off+n<=cs.size):(loadVar T ⟨b,off,none⟩).run P w= .ok (Gu agg ((cs.toList.drop off).take n).toArray) w:=by
 let⟨h1,h2,h3⟩:=yx h;have ac4:∀j v,((cs.toList.drop off).take n)[j]? =some v->w.cell? ((⟨b,off,none⟩:Addr).add j)=some v:=by
  intro j v hj;have bJ:(⟨b,off,none⟩:Addr).add j=⟨b,off+j,none⟩:=by unfold Addr.add;split<;>simp_all
  rw[bJ];rw[WM] at hj;split at hj
  ·simp at hj;simp[World.cell?,hb,hj]
  ·cases hj
 have hlen:((cs.toList.drop off).take n).length=n:=by simp;omega
 cases agg
 ·have hn:=h3 rfl;subst hn;have hlt:off<cs.size:=by omega
  have hc:=ac4 0 cs[off] (by simp[hlt]);have bJ:(⟨b,off,none⟩:Addr).add 0=⟨b,off,none⟩:=rfl;rw[bJ] at hc;simp[loadVar,E0,h1,Dn];simp[load,Sem.run,hc,Gu,hlt]
 ·have:=run_loadCells_list (P:=P) w ⟨b,off,none⟩ _ ac4;rw[hlen] at this;simp[loadVar,E0,h1,h2,Dn,if_true,this]
  rfl
def xK{x:AW}(hn:x.cells.size=n):((x.cells.toList.drop 0).take n).toArray=x.cells:=by rw[Pe,Cz (by simp;omega)]
def Fb{agg:Bool}(h:Bq P T n agg=true)(w:AR)(b:Nat)(x:AW)(E:Ap)(hb:w.heap[b]? =some (.cells x.cells E (0,0)))(hx:Shape n agg x):(loadVar T ⟨b,0,none⟩).run P w= .ok x w:=by rw[RQ h hb (by rw[hx.size];omega),xK hx.size,<-hx.eq]
def BN(τ:Ty)(off:Nat)(σ:Ty):Prop:=∀(H:HV) (v:AW),τ.ok H v->off+σ.n<=v.cells.size/\σ.ok H (Gu σ.agg ((v.cells.toList.drop off).take σ.n).toArray)
def BN.agg{i:Nat}(h:l[i]? =some σ)(ho:CS (l.take i)=off):BN (DF l) off σ:=by rintro H v ⟨cs,e,ok⟩;subst e;subst ho;have:=NU ok h;simpa[Value.cells] using this
def YB:(Gu true cs).cells=cs:=rfl
def BN.trans{ρ:Ty}{o1 o2:Nat}(h:BN τ o1 σ)(ha:σ.agg=true)(k:BN σ o2 ρ):BN τ (o1+o2) ρ:=λH v hv=>by
 let⟨h1,h2⟩:=h H v hv;let⟨k1,k2⟩:=k H _ h2;rw[ha] at k1 k2;simp only[YB] at k1 k2;have hlen:(List.take σ.n<|List.drop o1 v.cells.toList).toArray.size=σ.n:=by simp;omega
 rw[hlen] at k1;refine⟨by omega,?_⟩;have:List.take ρ.n (List.drop o2<|List.take σ.n<|List.drop o1 v.cells.toList)=List.take ρ.n (List.drop (o1+o2) v.cells.toList):=by
  rw[MU,OU,FZ]
  congr 1
  omega
 simpa[this] using k2
def Av(h:look Γ t=some (.own T' τ))(hT:Bq P T τ.n τ.agg=true):Az P Γ ⟨d,.load T<| .tmp t,ty,pos,af,g⟩ (.val τ):=
 Dj λ_ _ _ a w _ hs=>by
  let⟨b,x,e,hb,hx,_,_⟩:=hs.holds _<|B6 h
  have e':a.eval (.tmp t)= .pointer (some ⟨b,0,none⟩):=e;refine⟨x,?_,hx,rfl⟩;simp[execOp,e',Instr.loadAt,Instr.sureAddr,Fb hT w b x T' hb<|τ.shape hx]
def FW(h:look Γ t=some (.ptr t' off))(h':look Γ t'=some (.own T' τ))(hp:BN τ off σ)(hT:Bq P T σ.n σ.agg=true):Az P Γ ⟨d,.load T<| .tmp t,ty,pos,af,g⟩ (.val σ):=
 Dj λ_ _ _ a w _ hs=>by
  let⟨b,x,e,hb,hx,_,_⟩:=hs.holds _<|B6 h'
  let⟨b',e1,e2⟩:=hs.holds _<|B6 h
  simp only at e e1;rw[e] at e1;cases e1;have e':a.eval (.tmp t)= .pointer (some ⟨b,off,none⟩):=e2;let⟨h1,h2⟩:=hp _ _ hx;refine⟨_,?_,h2,rfl⟩;simp[execOp,e',Instr.loadAt,Instr.sureAddr,RQ hT hb h1]
def Bj(h:Arg Γ x (Jt τ))(hT:Bq P T τ.n τ.agg=true):Az P Γ ⟨d,.load T x,ty,pos,af,g⟩ (.val τ):=
 Dj λ_ _ _ a w _ hs=>by let⟨b,off,cs,E,fr,e,hb,hl,hx⟩:=h.ok hs;refine⟨_,?_,hx,rfl⟩;simp[execOp,e,Instr.loadAt,Instr.sureAddr,RQ hT (hs.sub _ _ hb) hl]
def Gb(P:CO)(T:Ap)(k off:Nat):Bool:=
 match P.underlying T with
 |some (.struct fs)=>match fs[k]? with
  |some f=>Nat.beq f.offset off&&(match P.info? f.type with|some i=> !Nat.beq i.size 0|none=>false)
  |none=>false
 |_=>false
theorem addr_add(b off n:Nat):(⟨b,off,none⟩:Addr).add n=⟨b,off+n,none⟩:=by unfold Addr.add;split<;>simp_all
def YK{k:Nat}(h:Gb P T k off=true)(b o:Nat)(w:AR):(Instr.fieldAt T (.pointer<|some ⟨b,o,none⟩) k).run P w= .ok (.pointer<|some ⟨b,o+off,none⟩) w:=by
 unfold Gb at h;split at h
 ·rename_i fs hu;split at h
  ·rename_i f hf;simp only[C6] at h;let⟨h1,h2⟩:=h;have h1:=EA h1;split at h2
   ·rename_i i hi;have hne:i.size≠0:=by intro e;rw[e] at h2;simp at h2
    simp[Instr.fieldAt,Ev hu,hf,Instr.sureAddr,fieldPlace,Go.sizeOf,typeInfo,program,Sem.run,hi,hne,addr_add,h1]
   ·cases h2
  ·cases h
 ·cases h
def FJ{k:Nat}(h:look Γ t=some (.own T' τ))(hf:Gb P T k off=true):Az P Γ ⟨d,.fieldAddr T (.tmp t) k,ty,pos,af,g⟩ (.ptr t off):=
 Dj λ_ _ _ a w _ hs=>by
  let⟨b,x,e,hb,hx,_,_⟩:=hs.holds _<|B6 h
  have e':a.eval (.tmp t)= .pointer (some ⟨b,0,none⟩):=e;exact⟨.pointer<|some ⟨b,0+off,none⟩,by simp[execOp,e',YK hf],⟨b,e,by simp⟩,rfl⟩
def PF{k:Nat}(h:look Γ t=some (.ptr t' o))(hf:Gb P T k off=true):Az P Γ ⟨d,.fieldAddr T (.tmp t) k,ty,pos,af,g⟩ (.ptr t'<|o+off):=
 Dj λ_ _ _ a w _ hs=>by
  let⟨b,e1,e2⟩:=hs.holds _<|B6 h
  have e':a.eval (.tmp t)= .pointer (some ⟨b,o,none⟩):=e2;exact⟨.pointer<|some ⟨b,o+off,none⟩,by simp[execOp,e',YK hf],⟨b,e1,rfl⟩,rfl⟩
def akJ(hp:BN τ o σ){b:Nat}{E:Ap}{fr:Nat×Nat}(hb:H b=some (.cells cs E fr))(hl:off+τ.n<=cs.size)(ha:τ.agg=true)(hx:τ.ok H (Gu τ.agg ((cs.toList.drop off).take τ.n).toArray)):(Jt σ).ok H (.pointer<|some ⟨b,off+o,none⟩):=by
 rw[ha] at hx;let⟨h1,h2⟩:=hp _ _ hx;simp only[YB] at h1 h2;have hlen:(List.take τ.n<|List.drop off cs.toList).toArray.size=τ.n:=by simp;omega
 rw[hlen] at h1;refine⟨b,off+o,cs,E,fr,rfl,hb,by omega,?_⟩;have:List.take σ.n (List.drop o<|List.take τ.n<|List.drop off cs.toList)=List.take σ.n (List.drop (off+o) cs.toList):=by
  rw[MU,OU,FZ]
  congr 1
  omega
 simpa[this] using h2
def L7{k:Nat}(h:Arg Γ x (Jt τ))(ha:τ.agg=true)(hp:BN τ off σ)(hf:Gb P T k off=true):Az P Γ ⟨d,.fieldAddr T x k,ty,pos,af,g⟩ (.val<|Jt σ):=
 Dj λ_ _ _ a w _ hs=>by let⟨b,o,cs,E,fr,e,hb,hl,hx⟩:=h.ok hs;exact⟨.pointer<|some ⟨b,o+off,none⟩,by simp[execOp,e,YK hf],akJ hp hb hl ha hx,rfl⟩
def LX(P:CO)(T:Ap)(len sz:Nat):Bool:=
 match P.underlying T with
 |some (.array n e)=>Nat.beq n len&&(match P.info? e with|some i=>Nat.beq i.size sz|none=>false)
 |_=>false
def G1(P:CO)(T:Ap)(sz:Nat):Bool:=
 match P.underlying T with
 |some (.slice e)=>(match P.info? e with|some i=>Nat.beq i.size sz|none=>false)
 |_=>false
def pF(h:LX P T len sz=true):∃e i,P.underlying T=some (.array len e)/\P.info? e=some i/\i.size=sz:=by
 unfold LX at h;split at h
 ·rename_i n e hu;simp only[C6] at h;let⟨h1,h2⟩:=h;have h1:=EA h1;subst h1;split at h2
  ·rename_i i hi;exact⟨e,i,hu,hi,EA h2⟩
  ·cases h2
 ·cases h
def pZ(h:G1 P T sz=true):∃e i,P.underlying T=some (.slice e)/\P.info? e=some i/\i.size=sz:=by
 unfold G1 at h;split at h
 ·rename_i e hu;split at h
  ·rename_i i hi;exact⟨e,i,hu,hi,EA h⟩
  ·cases h
 ·cases h
def uD(h:LX P T len sz=true)(b o:Nat)(h0:0<=i)(h1:i<len)(w:AR):(Instr.indexAt T (.pointer<|some ⟨b,o,none⟩)<| .int k i).run P w= .ok (.pointer<|some ⟨b,o+i.toNat*sz,none⟩) w:=by let⟨e,ii,hu,hi,hs⟩:=pF h;simp[Instr.indexAt,asIntOf,Ev hu,Instr.sureAddr,h0,h1,Go.sizeOf,typeInfo,program,Sem.run,hi,hs,addr_add]
def lL(h:G1 P T sz=true)(b o len cap:Nat)(h0:0<=i)(h1:i<len)(w:AR):(Instr.indexAt T (.slice (some ⟨b,o,none⟩) len cap)<| .int k i).run P w= .ok (.pointer<|some ⟨b,o+i.toNat*sz,none⟩) w:=by let⟨e,ii,hu,hi,hs⟩:=pZ h;simp[Instr.indexAt,asIntOf,Ev hu,h0,h1,Go.sizeOf,typeInfo,program,Sem.run,hi,hs,addr_add]
def vP(h:look Γ t=some (.own T' τ))(hT:LX P T len sz=true)(hi:Arg Γ ix (TI k i))(h0:0<=i)(h1:i<len):Az P Γ ⟨d,.indexAddr T (.tmp t) ix,ty,pos,af,g⟩ (.ptr t<|i.toNat*sz):=
 Dj λ_ _ _ a w _ hs=>by
  let⟨b,x,e,hb,hx,_,_⟩:=hs.holds _<|B6 h
  have e':a.eval (.tmp t)= .pointer (some ⟨b,0,none⟩):=e;have ei:a.eval ix= .int k i:=hi.ok hs;exact⟨.pointer<|some ⟨b,0+i.toNat*sz,none⟩,by simp[execOp,e',ei,uD hT b 0 h0 h1],⟨b,e,by simp⟩,rfl⟩
def Mm(h:look Γ t=some (.ptr t' o))(hT:LX P T len sz=true)(hi:Arg Γ ix (TI k i))(h0:0<=i)(h1:i<len):Az P Γ ⟨d,.indexAddr T (.tmp t) ix,ty,pos,af,g⟩ (.ptr t'<|o+i.toNat*sz):=
 Dj λ_ _ _ a w _ hs=>by
  let⟨b,e1,e2⟩:=hs.holds _<|B6 h
  have e':a.eval (.tmp t)= .pointer (some ⟨b,o,none⟩):=e2;have ei:a.eval ix= .int k i:=hi.ok hs;exact⟨.pointer<|some ⟨b,o+i.toNat*sz,none⟩,by simp[execOp,e',ei,uD hT b o h0 h1],⟨b,e1,rfl⟩,rfl⟩
def Fo(sz:Nat)(l:A3 Ty):Prop:=∀τ∈l,τ.n=sz
def KZ{sz:Nat}:∀{l:A3 Ty},Fo sz l->CS l=l.length*sz
 |[],_=>by simp
 |τ::l,h=>by have h1:=h τ (by simp);have h2:=KZ (l:=l) (λx hx=>h x (by simp[hx]));simp[h1,h2,Kc];omega
def Fo.take{sz:Nat}{l:A3 Ty}(h:Fo sz l)(i:Nat):Fo sz (l.take i):=λτ ht=>h τ<|Qk ht
theorem K8{α:Type _}{f:α->Ty}(h:∀x,(f x).n=sz)(l:A3 α):Fo sz (l.map f):=by simp_all [Ty.n,Fo]
def agW(h:Arg Γ x (G6 l))(hT:G1 P T sz=true)(hu:Fo sz l)(hi:Arg Γ ix (TI k i))(h0:0<=i)(hl:l[i.toNat]? =some σ):Az P Γ ⟨d,.indexAddr T x ix,ty,pos,af,g⟩ (.val<|Jt σ):=
 Dj λ_ _ _ a w _ hs=>by
  let⟨ad,cap,e,_,hx⟩:=h.ok hs;have hlt:=(FP.1 hl).1;let⟨b,o,cs,E,fr,e1,hb,hsz,ho⟩:=hx (λe=>by rw[e] at hlt;simp at hlt);subst e1;have ei:a.eval ix= .int k i:=hi.ok hs;have h1:i<l.length:=by omega
  let⟨p1,p2⟩:=NU ho hl;have hc:CS (l.take i.toNat)=i.toNat*sz:=by rw[KZ<|hu.take _,E1,EV (by omega)]
  rw[hc] at p1 p2;have hlen:(List.take (CS l)<|List.drop o cs.toList).length=CS l:=by simp;omega
  rw[hlen] at p1;refine⟨.pointer<|some ⟨b,o+i.toNat*sz,none⟩,by simp[execOp,e,ei,lL hT b o l.length cap h0 h1],⟨b,_,cs,E,fr,rfl,hb,by omega,?_⟩,rfl⟩;have:List.take σ.n (List.drop (i.toNat*sz)<|List.take (CS l)<|List.drop o cs.toList)=List.take σ.n (List.drop (o+i.toNat*sz) cs.toList):=by
   rw[MU,OU,FZ]
   congr 1
   omega
  rw[this] at p2;exact p2
inductive AP(Γ:Ctx):A3 CH->A3 Ty->Prop where
 |nil:AP Γ [] []
 |cons {x:CH} {τ:Ty} {xs:A3 CH} {l:A3 Ty} (h:Arg Γ x τ) (r:AP Γ xs l):AP Γ (x::xs) (τ::l)
def AP.ok{xs:A3 CH}{l:A3 Ty}(h:AP Γ xs l){w0:Aj P}{H0:HV}{N:Nat}{a:Act}{w:AR}{H:HV}(hs:Sat w0 H0 N Γ a w H):Ed H l (xs.map a.eval):=by
 induction h with
 |nil=>rfl
 |cons h _ ih=>exact⟨_,_,rfl,h.ok hs,ih⟩
def Is:A3 Ty->AQ
 |[τ]=> .val τ
 |l=> .La l
def sD:Res->AQ
 | .vs l=>Is l
 | .fr E sz l=> .buf E sz l
def Va{Bm:A3 Ty}{v:AW}{B:Aj P}{a:Act}(h:LS H Bm v):(Is Bm).holds B a w H v:=by
 match Bm,h with
 |[],h=>exact h
 |[_],h=>exact h
 |_::_::_,h=>exact h
def Vi{Bm:A3 Ty}:(Is Bm).free=true:=by
 match Bm with
 |[]=>rfl
 |[_]=>rfl
 |_::_::_=>rfl
theorem PE{f:FuncId}(h:Gi P f=true)(args:BA AW)(w:AR):(callFunc f args).run P w= .ok (.enter f args) w:=by
 unfold Gi at h;split at h
 ·rename_i fn hf;simp[C6,GA] at h;have hb:fn.body.isNone=false:=by cases hx:fn.body<;>simp[hx] at h⊢
  have h1:fn.name≠ "runtime.NumGoroutine" :=by simpa using h.2
  have h2:fn.body≠none:=by grind
  simp[callFunc,program,Sem.run,hf,h1,h2]
 ·cases h
def FX{f:FuncId}{xs:A3 CH}{F0:BA Ap}{args:A3 Ty}{Bm:Res}(hf:Eg P f args Bm)(ha:AP Γ xs args):Az P Γ ⟨d,.call ⟨.value<| .func f,xs.toArray,F0⟩,ty,pos,af,g⟩ (sD Bm):=by
 intro w0 H0 N a w H hs K Q k;unfold Oper.wp;have e:execOp a.eval ⟨d,.call ⟨.value<| .func f,xs.toArray,F0⟩,ty,pos,af,g⟩=callFunc f (#[]++xs.toArray.map a.eval++ #[]):=rfl;rw[e,PE hf.can,WD];have e2:(#[]++xs.toArray.map a.eval++ #[])=(xs.map a.eval).toArray:=by simp
 rw[e2];refine(hf.run w H _ hs.sub hs.gl<|ha.ok hs).mono ?_;rintro e w' ⟨v,rfl,hb,H',h1,h2,h3⟩;have he:Ext w H w' H':=⟨hb,λr o h=>by rw[h1 r<|HO hs.sub h];exact h,h1,h2⟩;cases Bm with
 |vs l=>exact k v w' H' he (Va h3)<|λb e=>absurd e<|AQ.free_spec (s:=Is l) Vi
 |fr E sz l=>let⟨xs,k1,k2,k3⟩:=h3;exact k v w' H' he ⟨xs,k1,k2,λb hb=>⟨(k3 b hb).2,.inl<|Cu hs.below.size (k3 b hb).1⟩⟩<|λb e=>(k3 b e).1
def ux{i:TypeInfo}{z:AW}(hi:P.info? T=some i)(hz:i.zero=some z)(w:AR):(zeroValue T).run P w= .ok z w:=by simp[zeroValue,typeInfo,program,Sem.run,hi,hz]
structure Dp(P:CO)(T:Ap)(τ:Ty):Prop where
 run:∀w,∃z,(zeroValue T).run P w= .ok z w/\∀H,τ.ok H z
def Ff(z:AW)(h:(P.info? T).bind (·.zero)=some z)(hz:∀H,τ.ok H z):Dp P T τ:=⟨λw=>by
 cases hi:P.info? T with
 |none=>rw[hi] at h;cases h
 |some i=>rw[hi] at h;exact⟨z,ux hi h w,hz⟩⟩
def L9(h:Dp P T τ):Az P Γ ⟨d,.alloc T,ty,pos,af,g⟩ (.own T τ):=
 MG λw0 _ _ a w H hs=>by
  let⟨z,hr,hz⟩:=h.run w;refine⟨.pointer<|some ⟨w.heap.size,0,none⟩,w.alloc<| .cells z.cells T,H,?_,Ext.alloc hs.sub _,?_,?_⟩
  ·simp[execOp,Instr.alloc,hr,newVar,newRow]
  ·refine⟨w.heap.size,z,rfl,Lv w _,hz H,?_,.inl hs.below.size⟩;cases hh:H w.heap.size with
   |none=>rfl
   |some o=>have:=HO hs.sub hh;omega
  ·rintro b ⟨ad,e,hb⟩;cases e;simp at hb;omega
def aoZ(h:Arg Γ x τ):Az P Γ ⟨d,.box T x,ty,pos,af,g⟩ (.own T τ):=
 MG λw0 _ _ a w H hs=>by
  refine⟨.pointer<|some ⟨w.heap.size,0,none⟩,w.alloc<| .cells (a.eval x).cells T,H,?_,Ext.alloc hs.sub _,?_,?_⟩
  ·simp[execOp,Instr.box,newVar,newRow]
  ·refine⟨w.heap.size,a.eval x,rfl,Lv w _,h.ok hs,?_,.inl hs.below.size⟩;cases hh:H w.heap.size with
   |none=>rfl
   |some o=>have:=HO hs.sub hh;omega
  ·rintro b ⟨ad,e,hb⟩;cases e;simp at hb;omega
end
section
variable[D:DR]
variable{P:Program}{N:Nat}{ops:Array Oper}{Γ An:Ctx}{d:Option Tmp}{ty:TypeId}{pos:String}{af:Array Edge}{g:Option (Nat×Bool)}
variable{T:Ap}{x:CH}{T':Ap}{y:CH}{n m:Int}{k:IntKind}{t:Nat}{σ τ:Ty}{w:AR}{a:Act}{H:HV}{off:Nat}{w0:Aj P}{H0:HV}{l:A3 Ty}{w':AR}{v:AW}{E:Ap}{row:AA Nat}{s:AQ}{ρ:Ty}{p:Nat}{Gp:Ty}{sz:Nat}
def r8{d:Nat}{Γ:Ctx}{p:Nat×AQ}(h:p∈del d Γ):p.1≠d/\d∉p.2.CA:=YP PW p h
def yQ(hs:Sat w0 H0 N Γ a w H)(hg:Ee w w' row)(Hf:∀b,row=some b->w0.ED b/\H b=none/\∀l,w.heap[b]? ≠some (.deferred l))
 (BE:∀p∈An,p∈Γ/\∀b,p.2.owns w (Ae a p.1) b->row≠some b):Sat w0 H0 N An a w' H:=by
 have E3:∀b,b<w.heap.size->row≠some b->w'.heap[b]? =w.heap[b]? :=λb hb hn=>hg.block b hb<|λe=>hn e.symm
 refine Vp (ds:=a.defers) hs (hs.below.LV hg<|λk hk=>(Hf k hk).1) hg.drawn (λ_ _ _ _=>rfl) hg.size (HV.le.refl _) ?_ ?_ ?_ ?_
 ·intro r o h;rw[E3 r (HO hs.sub h) (λe=>by have:=(Hf r e).2.1;rw[this] at h;cases h)];exact hs.sub r o h
 ·intro _ b hb Fl;exact⟨E3 b hb (λe=>by have:=Aj.QX (Hf b e).1;omega),rfl⟩
 ·intro p hp;exact⟨(BE p hp).1,λb hb=>⟨E3 b (AQ.JH (hs.holds p (BE p hp).1) hb).1<|(BE p hp).2 b hb,rfl⟩⟩
 ·exact hs.nd.kept λD _ h1 h2=>⟨by rw[E3 D (lt_of_heap h1)<|λe=>(Hf D e).2.2 _ h1];exact h1,h2⟩
def QO(h:Sat w0 H0 N Γ a w H){d:Nat}(hd:d<N)(hf:Jp d Γ=true)(hl:d∉s.CA)
 (hs:s.holds w0 a w H v)(hfr:∀b,s.owns w v b->∀q∈Γ,¬q.2.owns w (Ae a q.1) b):Sat w0 H0 N ((d,s)::Γ) (a.put (some d) v) w H:=vo h hd hf hl hs hfr
theorem PD{b:Nat}{s':AQ}(hs:Sat w0 H0 N Γ a w H)(ht:(t,s)∈Γ)(hg:Ee w w' (some b))(hb:w0.ED b)(hob:s.owns w (Ae a t) b)
 (DN:s'.holds w0 a w' H (Ae a t))(K1:∀c,s'.owns w' (Ae a t) c->s.owns w (Ae a t) c\/w.heap.size<=c):Sat w0 H0 N ((t,s')::BI t Γ) a w' H:=by
 let⟨h1,h2,o,h3,h4⟩:=AQ.JH (hs.holds _ ht) hob;have other:∀q∈BI t Γ,∀c,s.owns w (Ae a t) c-> ¬q.2.owns w (Ae a q.1) c:=λq hq c hc=>hs.sep _ ht q (DM q hq).1 (λe=>(DM q hq).2 e.symm) c hc
 have IF:Sat w0 H0 N (BI t Γ) a w' H:=by
  refine yQ hs hg (λc hc=>by cases hc;exact⟨hb,h2,λl e=>by rw[h3] at e;cases e;exact h4⟩)<|λq hq=>⟨(DM q hq).1,λc hc e=>?_⟩
  cases e;exact other q hq b hob hc
 have back:∀q∈BI t Γ,∀c,q.2.owns w' (Ae a q.1) c->q.2.owns w (Ae a q.1) c:=λq hq c hc=>by
  refine((AQ.Yf (w':=w') (H':=H) (hs.holds q (DM q hq).1) ?_).2 c).1 hc;refine⟨hg.size,hg.os,hg.tape,hg.output,hg.drawn,HV.le.refl _,?_,λ_ _ _=>rfl,IF.sub⟩;intro c hc1 HG;refine hg.block c hc1<|λe=>?_
  cases e;rcases HG with HG|HG
  ·have:=Aj.QX hb;omega
  ·grind
 refine⟨IF.nd,IF.sz,IF.below,IF.Fe,IF.sub,?_,?_,IF.gl⟩
 ·intro q hq;rcases Ao.1 hq with eq|hq
  ·grind
  ·exact IF.holds q hq
 ·have key:∀q∈BI t Γ,∀c,s'.owns w' (Ae a t) c-> ¬q.2.owns w' (Ae a q.1) c:=λq hq c hc FI=>by
   rcases K1 c hc with h|h
   ·grind
   ·have:=(AQ.JH (hs.holds q (DM q hq).1)<|back q hq c FI).1;omega
  intro q hq r hr hne c hc FI;rcases Ao.1 hq with eq|hq<;>rcases Ao.1 hr with er|hr
  ·grind
  ·grind
  ·grind
  ·exact IF.sep q hq r hr hne c hc FI
theorem aiq(hs:Sat w0 H0 N Γ a w H)(hg:Ee w w' row)(Hf:∀b,row=some b->w0.ED b/\H b=none)
 {q:Nat×AQ}(hq:q∈Γ)(hn:∀b,q.2.owns w (Ae a q.1) b->row≠some b)(c:Nat):q.2.owns w' (Ae a q.1) c↔q.2.owns w (Ae a q.1) c:=by
 refine(AQ.Yf (w':=w') (H':=H) (hs.holds q hq) ?_).2 c;refine⟨hg.size,hg.os,hg.tape,hg.output,hg.drawn,HV.le.refl _,?_,λ_ _ _=>rfl,?_⟩
 ·intro c hc1 HG;refine hg.block c hc1<|λe=>?_
  rcases HG with HG|HG
  ·have:=Aj.QX (Hf c e.symm).1;omega
  ·grind
 ·intro r o h;rw[hg.block r (HO hs.sub h) (λe=>by have:=(Hf r e.symm).2;rw[this] at h;cases h)];exact hs.sub r o h
theorem Vo{dd:Nat}{s':AQ}(hs:Sat w0 H0 N Γ a w H)(ht:(t,s)∈Γ)(hg:Ee w w' row)
 (Hf:∀b,row=some b->s.owns w (Ae a t) b/\w0.ED b)(DK:dd<N)(hl:dd∉s'.CA)(hv:s'.holds w0 a w' H v)(ho:∀b,s'.owns w' v b->s.owns w (Ae a t) b\/w.heap.size<=b):Sat w0 H0 N ((dd,s')::del dd (BI t Γ)) (a.put (some dd) v) w' H:=by
 have low:∀b,s.owns w (Ae a t) b->b<w.heap.size/\H b=none/\∃o,w.heap[b]? =some o/\a8 o:=λb h=>AQ.JH (hs.holds _ ht) h
 have sub:∀q∈del dd (BI t Γ),q∈Γ/\∀b,s.owns w (Ae a t) b-> ¬q.2.owns w (Ae a q.1) b:=λq hq=>by
  have h1:=DM q<|MQ q hq
  exact⟨h1.1,λb hb=>hs.sep _ ht q h1.1 (λe=>h1.2 e.symm) b hb⟩
 have abz:∀b,row=some b->w0.ED b/\H b=none:=λb h=>⟨(Hf b h).2,(low b (Hf b h).1).2.1⟩
 have hn:∀q∈del dd (BI t Γ),∀b,q.2.owns w (Ae a q.1) b->row≠some b:=λq hq b hb e=>(sub q hq).2 b (Hf b e).1 hb
 have IF:Sat w0 H0 N (del dd<|BI t Γ) a w' H:=by
  refine yQ hs hg (λb h=>⟨(Hf b h).2,(abz b h).2,λl e=>?_⟩)<|λq hq=>⟨(sub q hq).1,hn q hq⟩
  let⟨_,_,o,h3,h4⟩:=low b (Hf b h).1;rw[h3] at e;cases e;exact h4
 refine QO IF DK PW hl hv λb hb q hq hqb=>?_
 have hqb:=(aiq hs hg abz (sub q hq).1 (hn q hq) b).1 hqb;rcases ho b hb with h|h
 ·grind
 ·have:=(AQ.JH (hs.holds q (sub q hq).1) hqb).1;omega
def nU(w:AR):Ee w w none:=⟨⟨rfl,rfl,rfl,BM _,λ_ _ _=>rfl⟩,BM _⟩
def H8(τ:Ty)(off:Nat)(σ Gp:Ty):Prop:=∀(H:HV) (v x:AW),τ.ok H v->σ.ok H x->off+σ.n<=v.cells.size/\
 ∃x',Gp.ok H x'/\x'.cells=(v.cells.toList.take off++x.cells.toList++v.cells.toList.drop (off+σ.n)).toArray
def H8.whole(h:σ.n=τ.n):H8 τ 0 σ σ:=λH v x hv hx=>by have h1:=(τ.shape hv).size;refine⟨by omega,x,hx,?_⟩;rw[N2 (by simp;omega)];simp
def H8.agg{l:A3 Ty}{i off:Nat}{σ ρ:Ty}(h:l[i]? =some ρ)(hn:σ.n=ρ.n)(ho:CS (l.take i)=off):H8 (DF l) off σ (DF<|l.set i σ):=by rintro H v x ⟨cs,e,ok⟩ hx;subst e;subst ho;let⟨p1,_⟩:=NU ok h;have hp:=Tz ok h hn hx;rw[<-hn] at p1 hp;simp[Fg] at p1;exact⟨p1,.agg _,⟨_,rfl,by simpa[Value.cells] using hp⟩,rfl⟩
def mU{n:Nat}(h:Shape n false v):v.oneCell'=true/\n=1/\v.cells= #[v]:=by
 have h1:=h.size;have h2:=h.cell;have h3:=h.eq;cases v with
 |agg c=>
  exfalso;simp[Value.cells,Gu] at h2 h3;by_cases hc:0<c.size
  ·simp[hc] at h3;have:=h2 c[0] (by simp);rw[<-h3] at this;simp[Value.oneCell'] at this
  ·simp[UM,ie<|qK hc,undef] at h3
 |tuple c=>have:=h2 (.tuple c) (by simp[Value.cells]);simp[Value.oneCell'] at this
 |_=>exact⟨rfl,by simpa[Value.cells] using h1.symm,rfl⟩
def agL{n:Nat}{agg:Bool}{Kt:A3 AW}(h:Shape n agg (Gu agg Kt.toArray))(hl:Kt.length=n):(Gu agg Kt.toArray).cells=Kt.toArray:=by
 cases agg
 ·let⟨_,h2,h3⟩:=mU h
  match Kt,hl.trans h2 with
  |[y],_=>simpa[Gu] using h3
 ·rfl
theorem H8.trans{i o1 o2:Nat}{ρ':Ty}(h:l[i]? =some ρ)(ho:CS (l.take i)=o1)(k:H8 ρ o2 σ ρ')(hn:ρ'.n=ρ.n)(e:o1+o2=off):H8 (DF l) off σ (DF<|l.set i ρ'):=by
 rintro H v x ⟨cs,e',ok⟩ hx;subst e';subst ho;subst e;let⟨p1,p2⟩:=NU ok h;have hlen:cs.toList.length=cs.size:=by simp
 rw[hlen] at p1
 generalize O4:(List.take ρ.n<|List.drop (CS<|List.take i l) cs.toList)=Kt at p2
 have jZ:Kt.length=ρ.n:=by grind
 have aor:=agL (ρ.shape p2) jZ;let⟨k1,x',k2,k3⟩:=k H _ x p2 hx;rw[aor] at k1 k3;simp[iN,jZ] at k1;refine⟨by simp[Value.cells];omega,.agg _,⟨_,rfl,?_⟩,rfl⟩;have hp:=Tz ok h hn k2;rw[k3] at hp;have e1:List.take (CS<|List.take i l) cs.toList++(List.take o2 Kt++x.cells.toList++List.drop (o2+σ.n) Kt)++List.drop (CS (List.take i l)+ρ.n) cs.toList=List.take (CS (List.take i l)+o2) cs.toList++x.cells.toList++List.drop (CS (List.take i l)+o2+σ.n) cs.toList:=by
  have t1:List.take (CS (List.take i l)+o2) cs.toList=List.take (CS<|List.take i l) cs.toList++List.take o2 Kt:=by rw[List.take_add,<-O4,OU,EV (by omega)]
  have t2:List.drop (CS (List.take i l)+o2+σ.n) cs.toList=List.drop (o2+σ.n) Kt++List.drop (CS (List.take i l)+ρ.n) cs.toList:=by
   rw[<-O4,MU,FZ];have:List.drop (CS (List.take i l)+ρ.n) cs.toList=List.drop (ρ.n-(o2+σ.n)) (List.drop (CS (List.take i l)+(o2+σ.n)) cs.toList):=by rw[FZ];congr 1;omega
   rw[this,Oj]
   congr 1;omega
  rw[t1,t2];simp[Hm]
 rw[List.toList_toArray] at hp;rw[e1] at hp;exact hp
def TC{n:Nat}{b:Nat}{cs:BA AW}{x:AW}(hT:(P.info? T).map (·.size)=some n)(hn:x.cells.size=n)(hb:w.heap[b]? =some (.cells cs E (0,0)))(hl:off+n<=cs.size)(h1:∀c∈x.cells.toList,c.oneCell'=true):(storeVar T ⟨b,off,none⟩ x).run P w= .ok () (w.setRow b (cs.toList.take off++x.cells.toList++cs.toList.drop (off+n)).toArray):=by
 cases hi:P.info? T with
 |none=>rw[hi] at hT;cases hT
 |some i=>rw[hi] at hT;simp at hT;have Et:=run_storeCells_at P b off E x.cells.toList 0 cs w hb (by simp;omega) h1;simp[U8,Fg,hn] at Et;simp[storeVar,Go.sizeOf,typeInfo,program,Sem.run,hi,hT,hn,Et]
def Ts{n:Nat}{agg:Bool}(h:Bq P T n agg=true):(P.info? T).map (·.size)=some n:=by
 unfold Bq at h;split at h
 ·rename_i i dd hi hu;simp only[C6] at h;rw[hi];simp[EA h.1.1]
 ·cases h
def xQ{Ai:Ctx}(BE:∀q∈Ai,q∈Γ)(hp:look Ai p=some (.ptr t off))(ht:look Ai t=some (.own T' τ))(hx:Arg Ai x σ)(hs:H8 τ off σ Gp)(hT:Bq P T σ.n σ.agg=true):Step P N ops ⟨none,.store T (.tmp p) x,ty,pos,af,none⟩ Γ ((t,.own T' Gp)::BI t Γ):=by
 intro w0 H0 a w H BF K Q k;simp[Region.wanted,if_true];let⟨b,v,e,hb,hv,hH,hB⟩:=BF.holds _ (BE _<|B6 ht);let⟨b',e1,e2⟩:=BF.holds _ (BE _<|B6 hp);simp only at e e1;rw[e] at e1;cases e1;have ep:a.eval (.tmp p)= .pointer (some ⟨b,off,none⟩):=e2;have I2:=hx.ok<|BF.weaken BE
 have CT:=σ.shape I2;let⟨h1,x',h2,h3⟩:=hs H v _ hv I2;have F4:=TC (P:=P) (Ts hT) CT.size hb h1 CT.cell;rw[<-h3] at F4;unfold Oper.wp;have er:(execOp a.eval ⟨none,.store T (.tmp p) x,ty,pos,af,none⟩).run P w= .ok .skip (w.setRow b x'.cells):=by simp[execOp,ep,Instr.storeAt,Instr.sureAddr,F4]
 rw[er,Qf];have hg:Ee w (w.setRow b x'.cells) (some b):=Ee.setRow w b _;refine k a _ H<|PD BF (BE _<|B6 ht) hg hB ⟨_,e,rfl⟩ ⟨b,x',e,U4 w b _ _ _ _ hb,h2,hH,hB⟩ λc hc=>?_
 let⟨ad,e',hc⟩:=hc;simp[e] at e';cases e';exact .inl ⟨_,e,hc⟩
def yJ(hp:look Γ p=some (.ptr t off))(ht:look Γ t=some (.own T' τ))(hx:Arg Γ x σ)(hs:H8 τ off σ Gp)(hT:Bq P T σ.n σ.agg=true):Step P N ops ⟨none,.store T (.tmp p) x,ty,pos,af,none⟩ Γ ((t,.own T' Gp)::BI t Γ):=xQ (λ_ h=>h) hp ht hx hs hT
def nu(hp:look Γ p=some (.ptr t off))(ht:look Γ t=some (.own T' τ))(hx:Arg Γ x σ)(hs:H8 τ off σ Gp)(hT:Bq P T σ.n σ.agg=true):P3 P N ops Γ ⟨none,.store T (.tmp p) x,ty,pos,af,none⟩ t (.own T' Gp):=λ_ BE=>xQ BE hp ht hx hs hT
def uw{Ai:Ctx}(BE:∀q∈Ai,q∈Γ)(ht:look Ai t=some (.own T' τ))(hx:Arg Ai x σ)(hn:σ.n=τ.n)(hT:Bq P T σ.n σ.agg=true):Step P N ops ⟨none,.store T (.tmp t) x,ty,pos,af,none⟩ Γ ((t,.own T' σ)::BI t Γ):=by
 intro w0 H0 a w H BF K Q k;simp[Region.wanted,if_true];let⟨b,v,e,hb,hv,hH,hB⟩:=BF.holds _ (BE _<|B6 ht);have ep:a.eval (.tmp t)= .pointer (some ⟨b,0,none⟩):=e;have I2:=hx.ok<|BF.weaken BE
 have CT:=σ.shape I2;let⟨h1,x',h2,h3⟩:=H8.whole hn H v _ hv I2;have F4:=TC (P:=P) (Ts hT) CT.size hb h1 CT.cell;rw[<-h3] at F4;unfold Oper.wp;have er:(execOp a.eval ⟨none,.store T (.tmp t) x,ty,pos,af,none⟩).run P w= .ok .skip (w.setRow b x'.cells):=by simp[execOp,ep,Instr.storeAt,Instr.sureAddr,F4]
 rw[er,Qf];have hg:Ee w (w.setRow b x'.cells) (some b):=Ee.setRow w b _;refine k a _ H<|PD BF (BE _<|B6 ht) hg hB ⟨_,e,rfl⟩ ⟨b,x',e,U4 w b _ _ _ _ hb,h2,hH,hB⟩ λc hc=>?_
 let⟨ad,e',hc⟩:=hc;simp[e] at e';cases e';exact .inl ⟨_,e,hc⟩
def afd(ht:look Γ t=some (.own T' τ))(hx:Arg Γ x σ)(hn:σ.n=τ.n)(hT:Bq P T σ.n σ.agg=true):Step P N ops ⟨none,.store T (.tmp t) x,ty,pos,af,none⟩ Γ ((t,.own T' σ)::BI t Γ):=uw (λ_ h=>h) ht hx hn hT
def af3(ht:look Γ t=some (.own T' τ))(hx:Arg Γ x σ)(hn:σ.n=τ.n)(hT:Bq P T σ.n σ.agg=true):P3 P N ops Γ ⟨none,.store T (.tmp t) x,ty,pos,af,none⟩ t (.own T' σ):=λ_ BE=>uw BE ht hx hn hT
def IC{op:BinOp}(hx:Arg Γ x σ)(hy:Arg Γ y τ)
 (h:∀H u v,σ.ok H u->τ.ok H v->∀w:AR,(∀r o,H r=some o->w.heap[r]? =some o)->∃z,(do eqGuard op T x y u v;binOp op T u v:Sem AW).run P w= .ok z w/\ρ.ok H z):Az P Γ ⟨d,.binOp op T x y T',ty,pos,af,g⟩ (.val ρ):=
 Dj λ_ _ _ a w H hs=>by
  let⟨z,h1,h2⟩:=h H _ _ (hx.ok hs) (hy.ok hs) w hs.sub;refine⟨z,?_,h2,rfl⟩;have e:execOp a.eval ⟨d,.binOp op T x y T',ty,pos,af,g⟩=(do let z<-(do eqGuard op T x y (a.eval x) (a.eval y);binOp op T (a.eval x) (a.eval y):Sem AW);pure (.value z)):=rfl;rw[e,E0,h1]
  rfl
def N1(hx:Arg Γ x (TI k m))(hy:Arg Γ y (TI k n)):Az P Γ ⟨d,.binOp .add T x y T',ty,pos,af,g⟩ (.val<|TI k<|k.wrap<|m+n):=
 IC hx hy λH u v hu hv w _=>by cases hu;cases hv;exact⟨_,by simp[eqGuard,binOp,Op.intArith],rfl⟩
def Pn(hx:Arg Γ x (TI k m))(hy:Arg Γ y (TI k n)):Az P Γ ⟨d,.binOp .sub T x y T',ty,pos,af,g⟩ (.val<|TI k<|k.wrap<|m-n):=
 IC hx hy λH u v hu hv w _=>by cases hu;cases hv;exact⟨_,by simp[eqGuard,binOp,Op.intArith],rfl⟩
def Ni(hx:Arg Γ x (TI k m))(hy:Arg Γ y (TI k n)):Az P Γ ⟨d,.binOp .mul T x y T',ty,pos,af,g⟩ (.val<|TI k<|k.wrap<|m*n):=
 IC hx hy λH u v hu hv w _=>by cases hu;cases hv;exact⟨_,by simp[eqGuard,binOp,Op.intArith],rfl⟩
def ab3(hx:Arg Γ x (TI k m))(hy:Arg Γ y (TI k n))(h:n≠0):Az P Γ ⟨d,.binOp .quo T x y T',ty,pos,af,g⟩ (.val<|TI k<|k.wrap<|m.tdiv n):=
 IC hx hy λH u v hu hv w _=>by cases hu;cases hv;exact⟨_,by simp[eqGuard,binOp,Op.intDiv,h],rfl⟩
def aoQ(hx:Arg Γ x (TI k m))(hy:Arg Γ y (TI k n))(h:n≠0):Az P Γ ⟨d,.binOp .rem T x y T',ty,pos,af,g⟩ (.val<|TI k<|m.tmod n):=
 IC hx hy λH u v hu hv w _=>by cases hu;cases hv;exact⟨_,by simp[eqGuard,binOp,Op.intDiv,h],rfl⟩
def Cy(hx:Arg Γ x (TI k m))(hy:Arg Γ y (TI k n)):Az P Γ ⟨d,.binOp .lss T x y T',ty,pos,af,g⟩ (.val<|Aw<|decide<|m<n):=
 IC hx hy λH u v hu hv w _=>by cases hu;cases hv;exact⟨_,by simp[eqGuard,binOp,Op.intCmp],rfl⟩
def Qp(hx:Arg Γ x (TI k m))(hy:Arg Γ y (TI k n)):Az P Γ ⟨d,.binOp .leq T x y T',ty,pos,af,g⟩ (.val<|Aw<|decide<|m<=n):=
 IC hx hy λH u v hu hv w _=>by cases hu;cases hv;exact⟨_,by simp[eqGuard,binOp,Op.intCmp],rfl⟩
def CR(hx:Arg Γ x (TI k m))(hy:Arg Γ y (TI k n)):Az P Γ ⟨d,.binOp .gtr T x y T',ty,pos,af,g⟩ (.val<|Aw<|decide<|n<m):=
 IC hx hy λH u v hu hv w _=>by cases hu;cases hv;exact⟨_,by simp[eqGuard,binOp,Op.intCmp],rfl⟩
def HZ(hx:Arg Γ x (TI k m))(hy:Arg Γ y (TI k n)):Az P Γ ⟨d,.binOp .geq T x y T',ty,pos,af,g⟩ (.val<|Aw<|decide<|n<=m):=
 IC hx hy λH u v hu hv w _=>by cases hu;cases hv;exact⟨_,by simp[eqGuard,binOp,Op.intCmp],rfl⟩
def Cq(hx:Arg Γ x (TI k m))(hy:Arg Γ y (TI k n)):Az P Γ ⟨d,.binOp .eql T x y T',ty,pos,af,g⟩ (.val<|Aw<|decide<|m=n):=
 IC hx hy λH u v hu hv w _=>by
  cases hu;cases hv;refine⟨.bool<|m==n,by simp[eqGuard,binOp,Op.intCmp],?_⟩;show _=_
  congr 1
def Cx(hx:Arg Γ x (TI k m))(hy:Arg Γ y (TI k n)):Az P Γ ⟨d,.binOp .neq T x y T',ty,pos,af,g⟩ (.val<|Aw<| !decide (m=n)):=
 IC hx hy λH u v hu hv w _=>by
  cases hu;cases hv;refine⟨.bool<|m !=n,by simp[eqGuard,binOp,Op.intCmp],?_⟩;show _=_
  congr 1
def aoW{m n:ByteArray}(hx:Arg Γ x (T6 m))(hy:Arg Γ y (T6 n)):Az P Γ ⟨d,.binOp .eql T x y T',ty,pos,af,g⟩ (.val<|Aw<|m.toList==n.toList):=
 IC hx hy λH u v hu hv w _=>by cases hu;cases hv;exact⟨_,by simp[eqGuard,binOp,Op.stringOp],rfl⟩
def aoR{m n:ByteArray}(hx:Arg Γ x (T6 m))(hy:Arg Γ y (T6 n)):Az P Γ ⟨d,.binOp .neq T x y T',ty,pos,af,g⟩ (.val<|Aw<| !(m.toList==n.toList)):=
 IC hx hy λH u v hu hv w _=>by cases hu;cases hv;exact⟨_,by simp[eqGuard,binOp,Op.stringOp],rfl⟩
def X0(P:CO)(T:Ap):Bool:=match P.underlying T with|some .bool=>true|_=>false
def aoX{m n:Bool}(hT:X0 P T=true)(hx:Arg Γ x (Aw m))(hy:Arg Γ y (Aw n)):Az P Γ ⟨d,.binOp .eql T x y T',ty,pos,af,g⟩ (.val<|Aw<|m==n):=
 IC hx hy λH u v hu hv w _=>by
  cases hu;cases hv;have hu:P.underlying T=some .bool:=by
   unfold X0 at hT;split at hT
   ·assumption
   ·cases hT
  refine⟨.bool<|m==n,?_,rfl⟩;have e:(Op.equal T (.bool m)<| .bool n).run P w= .ok (m==n) w:=run_equalIn_bool w 9999 T m n hu;simp[eqGuard,binOp,e]
def DX{b:Bool}(hx:Arg Γ x (Aw b)):Az P Γ ⟨d,.unOp .not T x,ty,pos,af,g⟩ (.val<|Aw<| !b):=
 Dj λ_ _ _ a w H hs=>by have e:a.eval x= .bool b:=hx.ok hs;exact⟨_,by simp[execOp,e,Op.unary],rfl,rfl⟩
def ab5(hx:Arg Γ x (TI k n)):Az P Γ ⟨d,.unOp .neg T x,ty,pos,af,g⟩ (.val<|TI k<|k.wrap<|0-n):=
 Dj λ_ _ _ a w H hs=>by have e:a.eval x= .int k n:=hx.ok hs;exact⟨_,by simp[execOp,e,Op.unary,Op.intArith],rfl,rfl⟩
def Cp(n:Int):Prop:= -9223372036854775808<=n/\n<=9223372036854775807
def wrap_i64(h:Cp n):IntKind.i64.wrap n=n:=by exact IntWalk.i64_in n h
def U64(n:Int):Prop:=0<=n/\n<18446744073709551616
def wrap_u64(h:U64 n):IntKind.u64.wrap n=n:=by unfold U64 at h;exact IntWalk.u64_in n (by omega)
def amZ(hx:Arg Γ x (TI .i64 m))(hy:Arg Γ y (TI .i64 n))(h:Cp (m+n)):Az P Γ ⟨d,.binOp .add T x y T',ty,pos,af,g⟩ (.val<|TI .i64<|m+n):=by have:=N1 (P:=P) (d:=d) (ty:=ty) (pos:=pos) (af:=af) (g:=g) (T:=T) (T':=T') hx hy;rwa [wrap_i64 h] at this
def amQ(hx:Arg Γ x (TI .i64 m))(hy:Arg Γ y (TI .i64 n))(h:Cp (m-n)):Az P Γ ⟨d,.binOp .sub T x y T',ty,pos,af,g⟩ (.val<|TI .i64<|m-n):=by have:=Pn (P:=P) (d:=d) (ty:=ty) (pos:=pos) (af:=af) (g:=g) (T:=T) (T':=T') hx hy;rwa [wrap_i64 h] at this
def amV(hx:Arg Γ x (TI .i64 m))(hy:Arg Γ y (TI .i64 n))(h:Cp (m*n)):Az P Γ ⟨d,.binOp .mul T x y T',ty,pos,af,g⟩ (.val<|TI .i64<|m*n):=by have:=Ni (P:=P) (d:=d) (ty:=ty) (pos:=pos) (af:=af) (g:=g) (T:=T) (T':=T') hx hy;rwa [wrap_i64 h] at this
def amR(hx:Arg Γ x (TI .i64 m))(hy:Arg Γ y (TI .i64 n))(hn:n≠0)(h:Cp (m.tdiv n)):Az P Γ ⟨d,.binOp .quo T x y T',ty,pos,af,g⟩ (.val<|TI .i64<|m.tdiv n):=by have:=ab3 (P:=P) (d:=d) (ty:=ty) (pos:=pos) (af:=af) (g:=g) (T:=T) (T':=T') hx hy hn;rwa [wrap_i64 h] at this
def amU(hx:Arg Γ x (TI .i64 n))(h:Cp (-n)):Az P Γ ⟨d,.unOp .neg T x,ty,pos,af,g⟩ (.val<|TI .i64<| -n):=by have:=ab5 (P:=P) (d:=d) (ty:=ty) (pos:=pos) (af:=af) (g:=g) (T:=T) hx;rwa [iB,wrap_i64 h] at this
def Dw(P:CO)(T:Ap):Bool:=match P.underlying T with|some (.slice _)=>true|_=>false
theorem fP(h:Dw P T=true):∃e,P.underlying T=some (.slice e):=by
 unfold Dw at h;split at h
 ·grind
 ·cases h
def isStr(P:CO)(T:Ap):Bool:=match P.underlying T with|some .string=>true|_=>false
def nT(h:isStr P T=true):P.underlying T=some .string:=by
 unfold isStr at h;split at h
 ·assumption
 ·cases h
def nM{ty:Ap}(h:Dw P T=true)(ad:AA Addr)(n c:Nat)(w:AR):(Builtin.len_ #[T] ty #[.slice ad n c]).run P w= .ok (.int .i64 n) w:=by let⟨e,hu⟩:=fP h;simp[Builtin.len_,Ev hu,goInt]
def aoV(hT:Dw P T=true)(hx:Arg Γ x (G6 l)):Az P Γ ⟨d,.call ⟨.builtin .len,#[x],#[T]⟩,ty,pos,af,g⟩ (.val<|TI .i64 l.length):=
 Dj λ_ _ _ a w H hs=>by let⟨ad,cap,e,_⟩:=hx.ok hs;exact⟨_,by simp[execOp,resolve,invoke,builtin,e,nM hT],rfl,rfl⟩
def ahM{s:ByteArray}(hT:isStr P T=true)(hx:Arg Γ x (T6 s)):Az P Γ ⟨d,.call ⟨.builtin .len,#[x],#[T]⟩,ty,pos,af,g⟩ (.val<|TI .i64 s.size):=
 Dj λ_ _ _ a w H hs=>by have e:a.eval x= .string s:=hx.ok hs;exact⟨_,by simp[execOp,resolve,invoke,builtin,e,Builtin.len_,Ev<|nT hT,goInt],rfl,rfl⟩
theorem aai{B:Aj P}(h:(AQ.buf E sz l).holds B a w H v):∃ad cap,v= .slice ad l.length cap:=by
 let⟨xs,⟨_,hc⟩,_⟩:=h;rcases hc with⟨e,hl⟩|⟨g,cap,cur,e,_⟩
 ·grind
 ·grind
def agV{s:Nat}(hT:Dw P T=true)(hs:look Γ s=some (.same t))(ht:look Γ t=some (.buf E sz l)):Az P Γ ⟨d,.call ⟨.builtin .len,#[.tmp s],#[T]⟩,ty,pos,af,g⟩ (.val<|TI .i64 l.length):=
 Dj λ_ _ _ a w H BF=>by
  let⟨ad,cap,e⟩:=aai<|BF.holds _<|B6 ht
  have e2:Ae a s=Ae a t:=BF.holds _<|B6 hs
  have e3:a.eval (.tmp s)= .slice ad l.length cap:=e2.trans e;exact⟨_,by simp[execOp,resolve,invoke,builtin,e3,nM hT],rfl,rfl⟩
def Dt:Az P Γ ⟨d,.move<| .tmp t,ty,pos,af,g⟩ (.same t):=Dj λ_ _ _ a _ _ _=>⟨Ae a t,rfl,rfl,rfl⟩
def ais:Az P Γ ⟨d,.assign<| .const<| .slice none 0 0,ty,pos,af,g⟩ (.buf E sz []):=ait λw0 _ _ a w _ _=>⟨.slice none 0 0,rfl,⟨[],World.ownsRow_nil w _ _ _,rfl,λb h=>by simp[Value.ownBlock] at h⟩,λb h=>by simp[AQ.owns,Value.ownBlock] at h⟩
end
end Trn
