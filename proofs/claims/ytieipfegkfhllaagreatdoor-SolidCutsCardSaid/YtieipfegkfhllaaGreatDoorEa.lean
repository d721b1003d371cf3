/- Part of SolidCuts. -/
import Derived.WalkKit
import Derived.Orders
import Derived.RangeFuncIn
import Derived.RangeFuncRecord
import Derived.RangeFuncLeaves
import Derived.RangeFuncSeq
import Derived.Scope
import Derived.Shelf.Strings.Builder1
set_option maxRecDepth 100000
set_option maxHeartbeats 20000000
set_option linter.all false
open Go Go.RowKit Go.Proofs
namespace Trn
section
variable{p:Prop}
def Ar:= @of_decide_eq_true
def Aq:= @List.mem_cons
def B4:= @decide_eq_true
def Bg:= @of_decide_eq_false
def By:= @List.mem_cons_of_mem
def Co:= @Classical.byContradiction
def As:= @cond_false
def Be:= @List.length_map
def Bo:= @decide_eq_false
def C4:= @Bool.and_eq_true
def BU:= @List.mem_map
def D5:= @List.take_of_length_le
def BK:= @Nat.le_refl
def C3:= @List.mem_append
def Cn:= @List.mem_singleton
def Cg:= @Int.toNat_natCast
def BI:= @cond_true
def Eu:= @Int.mul_le_mul_of_nonneg_left
def Dc:= @List.mem_cons_self
def E9:= @Nat.eq_of_beq_eq_true
def FH:= @List.getElem?_eq_some_iff
def Ez:= @Int.eq_ofNat_of_zero_le
def Dm:= @Go.Result.andThen_ok
def E7:= @List.length_append
def Dj:= @List.all_eq_true
def Ct:= @Nat.le_trans
def E1:= @List.length_take
def Db:= @Rat.mul_nonneg
def E6:= @List.length_cons
def FT:= @Nat.le_of_ble_eq_true
def Gf:= @List.getElem?_eq_getElem
def E8:= @Option.some.inj
def Fa:= @Array.length_toList
def EU:= @Nat.min_eq_left
def DU:= @Int.mul_add
def E0:= @Go.Sem.run_bind
def G6:= @Int.natAbs_natCast
def JH:= @List.getD_eq_getElem?_getD
def G5:= @Bool.not_eq_true'
def GI:= @Int.mul_left_comm
def Ij:= @decide_eq_false_iff_not
def ET:= @Int.le_of_lt
def LN:= @List.eq_nil_of_length_eq_zero
def FR:= @List.drop_drop
def Gy:= @List.getElem?_map
def FG:= @Int.mul_assoc
def Ii:= @Nat.ble_eq_true_of_le
def IB:= @List.mem_append_left
def JG:= @List.length_singleton
def FB:= @Int.mul_comm
def Hl:= @decide_eq_true_iff
def HY:= @List.append_assoc
def Ge:= @List.map_append
def Mz:= @Int.mul_le_mul_of_nonneg_right
def HX:= @decide_eq_decide
def FQ:= @Nat.zero_le
def K8:= @Nat.pow_le_pow_right
def JF:= @List.pairwise_cons
def MT:= @List.getElem?_append_left
def HD:= @Nat.mul_le_mul
def Hk:= @Rat.mul_eq_zero
def Jj:= @Nat.lt_of_lt_of_le
def My:= @List.getElem?_append_right
def Ih:= @List.length_drop
def GS:= @Rat.le_of_lt
def LM:= @List.mem_of_getElem?
def LL:= @Nat.mul_le_mul_right
def LK:= @List.pairwise_append
def Ig:= @List.append_nil
def GR:= @Rat.le_refl
def GQ:= @Rat.mul_pos
def JE:= @List.mem_filter
def LJ:= @Nat.eq_zero_or_pos
def LI:= @Int.emod_lt_of_pos
def Mx:= @List.drop_of_length_le
def MS:= @Bool.or_eq_false_iff
def MR:= @Int.ofNat_eq_natCast
def Hj:= @Nat.lt_or_ge
def K7:= @List.nil_append
def Nd:= @List.length_replicate
def IA:= @Int.add_mul
def Lv:= @List.getElem_mem
def LH:= @List.length_set
def LG:= @Int.ediv_nonneg
def Kb:= @Go.run_underlying
def Oc:= @List.take_append_drop
def Ob:= @Int.emod_add_mul_ediv
def Lu:= @Int.emod_nonneg
def MQ:= @List.mem_flatMap
def LF:= @Int.mul_nonneg
def JD:= @Int.one_mul
def K6:= @Go.Sem.run_pure
def K5:= @getElem!_pos
def Nc:= @Rat.div_mul_cancel
def Lt:= @Go.heap_alloc_new
def Pm:= @Array.getElem?_toList
def LD:= @Nat.add_assoc
def SK:= @Array.getElem?_eq_some_iff
def Nb:= @List.pairwise_map
def MP:= @List.drop_take
def Lq:= @Bool.true_and
def Lp:= @Prod.mk.injEq
def NX:= @List.drop_append
def UD:= @Array.getD_eq_getD_getElem?
def Ka:= @Nat.add_mul
def OP:= @Rat.divInt_eq_div
def SC:= @List.pairwise_singleton
def MK:= @List.map_cons
def Mr:= @Int.natAbs_mul
def Qe:= @List.mem_of_mem_take
def NW:= @Rat.num_eq_zero
def Qd:= @Prod.ext_iff
def UC:= @List.drop_eq_getElem_cons
def Pc:= @List.flatMap_cons
def SB:= @List.mem_append_right
def MJ:= @Nat.mul_comm
def UB:= @List.Pairwise.imp_of_mem
def OO:= @Go.Oper.upon_value
def Ln:= @Int.mul_one
def ON:= @List.take_take
def Pb:= @Option.map_some
def Zf:= @Rat.mul_le_mul_of_nonneg_right
def UA:= @List.contains_iff_mem
def U9:= @Array.getElem?_modify
def Qc:= @List.nil_sublist
def OM:= @List.all_cons
def Mq:= @Nat.one_mul
def Mp:= @Nat.pow_add
def MI:= @bne_iff_ne
def U8:= @List.mem_of_mem_drop
def Pa:= @List.drop_zero
def PZ:= @Int.mul_le_mul
def Qb:= @Bool.or_eq_true
def WK:= @List.getElem?_set_self
def WJ:= @Int.sign_eq_one_of_pos
def PY:= @Bool.not_true
def SA:= @List.cons_append
def S9:= @Nat.mod_eq_of_lt
def S8:= @List.drop_length
def S7:= @Int.ediv_le_self
def U7:= @Bool.false_eq_true
def Qa:= @List.mem_range
def QZ:= @Go.Oper.upon_skip
def U6:= @List.getElem?_drop
def QY:= @Bool.false_and
def Ze:= @List.pairwise_iff_getElem
def PX:= @Nat.zero_add
def PW:= @Nat.add_comm
def S6:= @Int.natCast_mul
def S5:= @Rat.num_intCast
def U5:= @Int.emod_eq_of_lt
def U4:= @List.nodup_append
def Zd:= @Go.World.putObj_heap_other
def Zc:= @List.sublist_append_iff
def WI:= @List.length_pos_iff
def U3:= @Nat.le_add_right
def OL:= @Nat.mod_lt
def PV:= @Rat.div_def
def WH:= @List.getElem?_take
def WG:= @List.filter_append
def WE:= @Bool.not_eq_false'
def QX:= @Nat.pow_succ
def iZ:= @Int.gcd_pos_of_ne_zero_left
def Zb:= @Int.ediv_lt_of_lt_mul
def Tz:= @Rat.den_intCast
def Za:= @List.mem_iff_getElem?
def iY:= @Array.toList_setIfInBounds
def iX:= @Int.sign_eq_neg_one_of_neg
def WD:= @decide_eq_true_eq
def WC:= @List.ext_getElem?
def WB:= @Int.lt_trichotomy
def iW:= @Array.getElem?_eq_getElem
def iV:= @Int.lt_of_mul_lt_mul_left
def iU:= @List.sublist_append_right
def QW:= @Nat.le_succ
def QV:= @Nat.log2_lt
def WA:= @List.take_append
def S4:= @Nat.succ_mul
def S3:= @Nat.gcd_comm
def W9:= @List.isEmpty_iff
def ZZ:= @List.take_replicate
def ZY:= @beq_eq_false_iff_ne
def ZX:= @Nat.mul_le_mul_left
def ZW:= @List.flatMap_append
def Tx:= @Bool.false_or
def QU:= @beq_iff_eq
def W8:= @Go.Oper.upon_enter
def W7:= @Array.size_ofFn
def W6:= @Int.mul_ne_zero
def iS:= @Array.getElem?_eq_none
def S2:= @Rat.inv_pos
def iR:= @List.length_eq_one_iff
def ZV:= @List.any_eq_false
def ZU:= @List.foldl_append
def ZT:= @List.Sublist.refl
def Tw:= @Nat.add_zero
def Tv:= @List.map_set
def Tu:= @List.map_map
def iQ:= @Array.getElem?_append
def Tt:= @Int.mul_zero
def W5:= @Rat.mkRat_self
def W0:= @Int.natAbs_neg
def iP:= @List.eq_nil_or_concat
def ZS:= @Option.getD_some
def ZR:= @Go.Lib.cell_of_heap
def ZQ:= @List.filter_cons
def iN:= @BitVec.ofInt_natCast
def ZP:= @List.append_inj'
def qC:= @List.map_take
def Ts:= @Go.setRow_heap
def Tq:= @Int.mul_sub
def iM:= @List.take_succ_cons
def iL:= @List.drop_set_of_lt
def qB:= @List.getElem?_zip_eq_some
def ZO:= @List.length_nil
def ZN:= @Bool.decide_and
def ZM:= @Bool.eq_iff_iff
def ZK:= @List.any_append
def Vz:= @Nat.le_of_lt
def iK:= @List.map_replicate
def Vy:= @Int.add_zero
def iJ:= @BitVec.toNat_ofNat
def iI:= @Rat.mul_inv_cancel
def ZJ:= @List.drop_left
def iH:= @List.size_toArray
def qA:= @Go.World.putObj_heap_same
def ZI:= @Bool.or_false
def iG:= @List.not_mem_nil
def iF:= @List.any_eq_true
def ZH:= @List.map_nil
def ZG:= @Bool.true_or
def iE:= @List.foldl_cons
def q9:= @List.contains_eq_mem
def pz:= @List.getElem?_set_ne
def iD:= @List.all_append
def ZF:= @Rat.le_trans
def iC:= @UInt8.toNat_inj
def ZE:= @or_and_right
def iB:= @Rat.intCast_inj
def py:= @List.map_congr_left
def iA:= @List.take_left
def gz:= @Bool.and_false
def gy:= @Rat.num_divInt
def gw:= @Rat.den_divInt
def ZD:= @Int.sub_mul
def Vx:= @Go.wpIn_mono
def pt:= @Rat.sub_eq_add_neg
def pq:= @List.append_of_mem
def gq:= @Bool.and_true
def po:= @Nat.le_of_not_lt
def gp:= @Int.zero_sub
def gn:= @Nat.zero_mul
def gk:= @Rat.le_total
def BY(h:p:=by dsimp only;omega):p:=h
def DD(h:p:=by simp;omega):p:=h
def Le(h:p:=by decide):p:=h
def FN(h:p:=by rfl):p:=h
theorem AL(h:p:=by grind):p:=h
def AX(h:p:=by simp):p:=h
def A4(h:p:=by omega):p:=h
def A7{α:Sort _}{a b:α}(h:a=b:=by kernel_rfl):a=b:=h
end
abbrev A3:=List
abbrev AA:=Option
abbrev AR:=World
abbrev AV:=Value
abbrev CD:=Operand
abbrev Am:=TypeId
abbrev CF:=Program
abbrev B8:=Array
abbrev HV:=Nat->AA Obj
class DR where
 on:Bool
def DR.m[D:DR](w:AR):Nat:=cond D.on w.drawn 0
abbrev DR.strict:DR:=⟨true⟩
instance DR.lax:DR:=⟨false⟩
abbrev Gv[D:DR](w w':AR):Prop:=DR.m w<=DR.m w'
theorem Gv.of[D:DR]{w w':AR}(h:w.drawn<=w'.drawn):Gv w w':=by
 unfold Gv DR.m;cases D.on
 .grind
 .exact h
class ac0[D:DR]:Prop where
 off:D.on=false
instance: @ac0 DR.lax:= @ac0.mk DR.lax rfl
def HV.le(H H':HV):Prop:=∀r o,H r=some o->H' r=some o
def HV.le.refl(H:HV):HV.le H H:=λ_ _ h=>h
def HV.le.trans{A B C:HV}(h:HV.le A B)(k:HV.le B C):HV.le A C:=λr o x=>k r o<|h r o x
def eN:B8 AV:=((List.range 20).map λi=>Value.int .u64<|10^i).toArray
def SQ(P:CF)(T:Am)(o:AA Obj):Prop:=match P.underlying T with|some (.int k)=>∃m E fr,o=some (.cells #[.int k m] E fr)|some (.array 20 _)=>∃E fr,o=some (.cells eN E fr)|_=>True
def LP(P:CF)(H:HV):Prop:=∀g T,(P.globals[g]?).map (·.type)=some T->SQ P T (H g)
def LP.mono{P:CF}{H H':HV}(h:HV.le H H')(k:LP P H):LP P H':=λg T e=>by
 have:=k g T e;unfold SQ at this⊢;split
 .rename_i hu;rw[hu] at this;let⟨m,E,fr,e⟩:=this;exact⟨m,E,fr,h _ _ e⟩
 .rename_i hu;rw[hu] at this;let⟨E,fr,e⟩:=this;exact⟨E,fr,h _ _ e⟩
 .trivial
structure Aj(P:CF) where
 w:AR
 X:Nat->Prop
 rd:AA Nat
 Iw:Bool
 ds:A3 Deferred
 lo:Nat
 acG:lo<=w.heap.size
 ars:∀k,X k->lo<=k
section
variable{P:Program}
def KO:Nat->Prop:=λ_=>False
def Aj.call(P:CF)(w:AR):Aj P:=⟨w,KO,none,false,[],w.heap.size,BK _,λ_ h=>h.elim⟩
def Aj.n(b:Aj P):Nat:=b.w.heap.size
def Aj.EC(b:Aj P)(k:Nat):Prop:=b.n<=k\/b.X k
def Aj.QS{b:Aj P}{k:Nat}(h:b.EC k):b.lo<=k:=h.elim (λh=>Ct b.acG h)<|b.ars k
def Aj.lo_le{b:Aj P}:b.lo<=b.n:=b.acG
end
section
variable{P:Program}
variable[D:DR]
variable{w:AR}{b:Aj P}
structure FO(n:Nat)(w w':AR):Prop extends Below n w w' where
 drawn:Gv w w'
structure Ed(w w':AR)(row:AA Nat):Prop extends w.grownBy w' row where
 drawn:Gv w w'
def FO.refl(n:Nat)(w:AR):FO n w w:=⟨Below.refl _ _,BK _⟩
def FO.alloc{w:AR}(o:Obj):FO w.heap.size w (w.alloc o):=⟨(Below.refl _ _).alloc (BK _) _,BK _⟩
def Ed.setRow(w:AR)(b:Nat)(cs:B8 AV):Ed w (w.setRow b cs) (some b):=⟨⟨rfl,rfl,rfl,by simp,λk _ hk=>setRow_other w b k _ (λe=>hk (by rw[e]))⟩,BK _⟩
structure Kept(b:Aj P)(w:AR):Prop where
 os:w.os=b.w.os
 tape:w.tape=b.w.tape
 output:w.output=b.w.output
 drawn:Gv b.w w
 size:b.n<=w.heap.size
 block:b.Iw=false->∀k,k<b.n-> ¬b.X k->w.heap[k]? =b.w.heap[k]?
def Kept.step{w':AR}(h:Kept b w)(k:FO w.heap.size w w'):Kept b w':=⟨k.os.trans h.os,k.tape.trans h.tape,k.output.trans h.output,Ct h.drawn k.drawn,Ct h.size k.size,λhv i hi hx=>(k.block i<|Jj hi h.size).trans<|h.block hv i hi hx⟩
def Kept.LS{w':AR}{row:AA Nat}(h:Kept b w)(g:Ed w w' row)(hr:∀k,row=some k->b.EC k):Kept b w':=
 ⟨g.os.trans h.os,g.tape.trans h.tape,g.output.trans h.output,Ct h.drawn g.drawn,Ct h.size g.size,λhv i hi hx=>(g.block i (Jj hi h.size) (λe=>by
  rcases hr i e.symm with h1|h1
  .omega
  .exact hx h1)).trans<|h.block hv i hi hx⟩
def Kept.below(h:Kept b w)(hX:b.X=KO)(hv:b.Iw=false):FO b.w.heap.size b.w w:=⟨⟨h.os,h.tape,h.output,h.size,λk hk=>h.block hv k hk (by rw[hX];exact λh=>h)⟩,h.drawn⟩
end
section
variable{P:Program}
variable{H:HV}{v:AV}{H':HV}
def grow(H:HV)(w w':AR):HV:=λr=>if r<w.heap.size then H r else w'.heap[r]?
def Gp:Bool->B8 AV->AV
 |true,cs=> .agg cs|false,cs=>cs.getD 0 undef
structure Shape(n:Nat)(agg:Bool)(v:AV):Prop where
 size:v.cells.size=n
 cell:∀c∈v.cells.toList,c.oneCell'=true
 eq:v=Gp agg v.cells
def Shape.one(h:v.oneCell'=true):Shape 1 false v:=by
 have hc:v.cells= #[v]:=by cases v<;>first|rfl|simp[Value.oneCell'] at h
 refine⟨by simp[hc],by simp[hc,h],by simp[hc,Gp]⟩
structure Ty where
 n:Nat
 agg:Bool
 ok:HV->AV->Prop
 mono:∀{H H':HV} {v:AV},HV.le H H'->ok H v->ok H' v
 shape:∀{H:HV} {v:AV},ok H v->Shape n agg v
def TEq(v:AV)(h:v.oneCell'=true):Ty where
 n:=1
 agg:=false
 ok:=λ_ x=>x=v
 mono:=λ_ h=>h
 shape:=λe=>by subst e;exact Shape.one h
def TI(k:IntKind)(n:Int):Ty:=TEq (.int k n) rfl
def Av(b:Bool):Ty:=TEq (.bool b) rfl
def Sv(s:ByteArray):Ty:=TEq (.string s) rfl
@[simp] theorem rP{k:IntKind}{n:Int}:(TI k n).ok H v↔v= .int k n:=Iff.rfl
@[simp] theorem av2{b:Bool}:(Av b).ok H v↔v= .bool b:=Iff.rfl
@[simp] theorem av4{b:ByteArray}:(Sv b).ok H v↔v= .string b:=Iff.rfl
def DT(H:HV):A3 Ty->A3 AV->Prop
 |[],cs=>cs=[]|τ::l,cs=>∃v rest,cs=v.cells.toList++rest/\τ.ok H v/\DT H l rest
def CR(l:A3 Ty):Nat:=(l.map (·.n)).sum
@[simp] theorem ahl:CR []=0:=rfl
@[simp] theorem mX(τ:Ty)(l:A3 Ty):CR (τ::l)=τ.n+CR l:=by simp[CR]
def QL{H H':HV}(h:HV.le H H'):∀{l:A3 Ty} {cs:A3 AV},DT H l cs->DT H' l cs
 |[],_,e=>e|_::_,_,⟨v,rest,e,hv,hr⟩=>⟨v,rest,e,Ty.mono _ h hv,QL h hr⟩
def Mo{H:HV}:∀{l:A3 Ty} {cs:A3 AV},DT H l cs->cs.length=CR l
 |[],_,e=>by subst e;rfl
 |τ::l,_,⟨v,rest,e,hv,hr⟩=>by subst e;have:=Mo hr;have hs:=(τ.shape hv).size;simp[this,hs]
def Rp{H:HV}:∀{l:A3 Ty} {cs:A3 AV},DT H l cs->∀c∈cs,c.oneCell'=true
 |[],_,e=>by subst e;simp
 |τ::l,_,⟨v,rest,e,hv,hr⟩=>by
  subst e;intro c hc;rcases C3.1 hc with h|h
  .exact(τ.shape hv).cell c h
  .exact Rp hr c h
def Rb{H:HV}:∀{l:A3 Ty} {cs:A3 AV} {l':A3 Ty} {Dv:A3 AV},DT H l cs->DT H l' Dv->DT H (l++l') (cs++Dv)
 |[],_,_,_,e,h=>by subst e;simpa using h
 |_::_,_,_,_,⟨v,rest,e,hv,hr⟩,h=>by subst e;exact⟨v,_,by simp,hv,Rb hr h⟩
def NO{H:HV}:∀{l:A3 Ty} {cs:A3 AV} {i:Nat} {τ:Ty},DT H l cs->l[i]? =some τ->CR (l.take i)+τ.n<=cs.length/\τ.ok H (Gp τ.agg ((cs.drop<|CR<|l.take i).take τ.n).toArray)
 |[],_,i,_,_,h=>by simp at h
 |σ::l,_,0,τ,⟨v,rest,e,hv,hr⟩,h=>by
  simp at h;subst h;subst e;have hs:=σ.shape hv;refine⟨by simp[hs.size],?_⟩;have:(List.take σ.n<|v.cells.toList++rest).toArray=v.cells:=by rw[<-hs.size,<-Fa,iA]
  simpa[this,<-hs.eq] using hv
 |σ::l,_,i+1,τ,⟨v,rest,e,hv,hr⟩,h=>by
  simp at h;subst e;have hs:=σ.shape hv;let⟨h1,h2⟩:=NO hr h;have hd:List.drop (σ.n+CR (List.take i l)) (v.cells.toList++rest)=List.drop (CR<|List.take i l) rest:=by rw[<-hs.size,<-Fa,NX];simp
  refine⟨?_,?_⟩
  .simp[hs.size];omega
  .simp[iM,mX,hd];exact h2
def Tp{H:HV}:∀{l:A3 Ty} {cs:A3 AV} {i:Nat} {τ σ:Ty} {x:AV},DT H l cs->l[i]? =some τ->σ.n=τ.n->σ.ok H x->DT H (l.set i σ) (cs.take (CR<|l.take i)++x.cells.toList++cs.drop (CR (l.take i)+τ.n))
 |[],_,i,_,_,_,_,h,_,_=>by simp at h
 |ρ::l,_,0,τ,σ,x,⟨v,rest,e,hv,hr⟩,h,hn,hx=>by
  simp at h;subst h;subst e;have hs:=ρ.shape hv;have hd:List.drop ρ.n (v.cells.toList++rest)=rest:=by rw[<-hs.size,<-Fa,ZJ]
  simp[List.set_cons_zero,List.take_zero,ahl,PX,K7,hd];exact⟨x,rest,rfl,hx,hr⟩
 |ρ::l,_,i+1,τ,σ,x,⟨v,rest,e,hv,hr⟩,h,hn,hx=>by
  simp at h;subst e;have hs:=ρ.shape hv;have ih:=Tp hr h hn hx;have h1:List.take (ρ.n+CR (List.take i l)) (v.cells.toList++rest)=v.cells.toList++List.take (CR<|List.take i l) rest:=by rw[<-hs.size,<-Fa,WA];simp[D5]
  have h2:List.drop (ρ.n+CR (List.take i l)+τ.n) (v.cells.toList++rest)=List.drop (CR (List.take i l)+τ.n) rest:=by rw[<-hs.size,<-Fa,LD,NX];simp
  simp[List.set_cons_succ,iM,mX,h1,h2];exact⟨v,_,by simp,hv,ih⟩
def DB(l:A3 Ty):Ty where
 n:=CR l
 agg:=true
 ok:=λH v=>∃cs,v= .agg cs/\DT H l cs.toList
 mono:=λh ⟨cs,e,k⟩=>⟨cs,e,QL h k⟩
 shape:=λ⟨cs,e,k⟩=>by subst e;exact⟨by simpa[Value.cells] using Mo k,by simpa[Value.cells] using Rp k,rfl⟩
def Ec(H:HV):A3 Ty->A3 AV->Prop
 |[],vs=>vs=[]|τ::l,vs=>∃v rest,vs=v::rest/\τ.ok H v/\Ec H l rest
def Yl{H H':HV}(h:HV.le H H'):∀{l:A3 Ty} {vs:A3 AV},Ec H l vs->Ec H' l vs
 |[],_,e=>e|_::_,_,⟨v,rest,e,hv,hr⟩=>⟨v,rest,e,Ty.mono _ h hv,Yl h hr⟩
def aat{H:HV}:∀{l:A3 Ty} {vs:A3 AV} {i:Nat} {τ:Ty},Ec H l vs->l[i]? =some τ->∃v,vs[i]? =some v/\τ.ok H v
 |[],_,i,_,_,h=>by simp at h|_::_,_,0,_,⟨v,rest,e,hv,_⟩,h=>by simp at h;subst h;subst e;exact⟨v,rfl,hv⟩|_::_,_,i+1,_,⟨v,rest,e,_,hr⟩,h=>by simp at h;subst e;simpa using aat hr h
def Rw{H:HV}:∀{l:A3 Ty} {vs:A3 AV},Ec H l vs->vs.length=l.length
 |[],_,e=>by subst e;rfl|_::_,_,⟨v,rest,e,_,hr⟩=>by subst e;simp[Rw hr]
def Jp(τ:Ty):Ty where
 n:=1
 agg:=false
 ok:=λH v=>∃b off cs E fr,v= .pointer (some ⟨b,off,none⟩)/\H b=some (.cells cs E fr)/\off+τ.n<=cs.size/\
  τ.ok H (Gp τ.agg ((cs.toList.drop off).take τ.n).toArray)
 mono:=λh ⟨b,off,cs,E,fr,e,hb,hl,k⟩=>⟨b,off,cs,E,fr,e,h _ _ hb,hl,τ.mono h k⟩
 shape:=λ⟨_,_,_,_,_,e,_⟩=>by subst e;exact Shape.one rfl
def G3(l:A3 Ty):Ty where
 n:=1
 agg:=false
 ok:=λH v=>∃ad cap,v= .slice ad l.length cap/\l.length<=cap/\
  (l≠[]->∃b off cs E fr,ad=some ⟨b,off,none⟩/\H b=some (.cells cs E fr)/\off+CR l<=cs.size/\DT H l ((cs.toList.drop off).take<|CR l))
 mono:=λh ⟨ad,cap,e,hc,k⟩=>⟨ad,cap,e,hc,λhl=>by let⟨b,off,cs,E,fr,e1,hb,hs,ho⟩:=k hl;exact⟨b,off,cs,E,fr,e1,h _ _ hb,hs,QL h ho⟩⟩
 shape:=λ⟨_,_,e,_,_⟩=>by subst e;exact Shape.one rfl
def TEx{α:Type}(n:Nat)(agg:Bool)(p:α->Prop)(τ:α->Ty)(hn:∀a,(τ a).n=n)(ha:∀a,(τ a).agg=agg):Ty where
 n:=n
 agg:=agg
 ok:=λH v=>∃a,p a/\(τ a).ok H v
 mono:=λh ⟨a,pa,k⟩=>⟨a,pa,(τ a).mono h k⟩
 shape:=λ⟨a,_,k⟩=>by have:=(τ a).shape k;rw[hn,ha] at this;exact this
def okM(H:HV):Nat->A3 (Ty×Ty)->A3 MapEntry->Prop
 |_,[],[]=>True|i,(k,e)::l,x::xs=>k.ok H x.key/\e.ok H x.val/\x.born=i/\okM H (i+1) l xs|_,_,_=>False
def oR{H H':HV}(h:HV.le H H'):∀{i:Nat} {l:A3 (Ty×Ty)} {es:A3 MapEntry},okM H i l es->okM H' i l es
 |_,[],[],_=>trivial|_,[],_::_,k=>k.elim|_,(_,_)::_,[],k=>k.elim|_,(k,e)::_,_::_,⟨h1,h2,h3,h4⟩=>⟨k.mono h h1,e.mono h h2,h3,oR h h4⟩
def kJ(L:A3 (Ty×Ty)):Ty where
 n:=1
 agg:=false
 ok:=λH v=>∃r es,v= .map (some r)/\H r=some (.map es es.size)/\okM H 0 L es.toList
 mono:=λh ⟨r,es,e,hr,k⟩=>⟨r,es,e,h _ _ hr,oR h k⟩
 shape:=λ⟨_,_,e,_,_⟩=>by subst e;exact Shape.one rfl
end
section
variable{P:Program}
variable[D:DR]
variable{w:AR}{H:HV}{B:Aj P}{v:AV}{a:Act}{w':AR}{H':HV}{b:Nat}{Eb:Am}{w0:Aj P}{H0:HV}{N d:Nat}{B':Aj P}{E:Am}{l:A3 Ty}
structure Far(n:Nat)(own:Nat->Prop)(w:AR)(H:HV)(w':AR)(H':HV):Prop where
 size:w.heap.size<=w'.heap.size
 os:w'.os=w.os
 tape:w'.tape=w.tape
 output:w'.output=w.output
 drawn:Gv w w'
 le:HV.le H H'
 E3:∀b,b<w.heap.size->(b<n\/own b)->w'.heap[b]? =w.heap[b]?
 view:∀b,b<w.heap.size->(b<n\/own b)->H' b=H b
 sub:∀r o,H' r=some o->w'.heap[r]? =some o
def Far.imp{n m:Nat}{p q:Nat->Prop}{w w':AR}{H H':HV}(h:Far n p w H w' H')(hm:m<=n)(hq:∀b,q b->p b):Far m q w H w' H':=⟨h.size,h.os,h.tape,h.output,h.drawn,h.le,λb hb k=>h.E3 b hb<|k.imp (λx=>Jj x hm)<|hq b,λb hb k=>h.view b hb<|k.imp (λx=>Jj x hm)<|hq b,h.sub⟩
def Zx:Obj->Prop
 | .deferred _=>False|_=>True
structure Inv where
 n:Nat
 M:Nat->Prop
 p:AR->HV->Prop
 lt:∀{w:AR} {H:HV} {b:Nat},p w H->M b->b<w.heap.size/\H b=none/\∃o,w.heap[b]? =some o/\Zx o
 step:∀{w w':AR} {H H':HV},p w H->Far n M w H w' H'->p w' H'
inductive DC where
 |val(τ:Ty)|buf(l:A3 Ty)|any
inductive Bt where
 |val(τ:Ty)|any(n:Nat)(agg:Bool)|sm(u:Nat)|buf(E:Am)(sz:Nat)(l:A3 Ty)|map(K E:Am)(Eb:Am)(sz:Nat)(EZ:A3 (Ty×DC))
inductive AQ where
 |val(τ:Ty)|LY(l:A3 Ty)|own(T:Am)(τ:Ty)|ptr(t off:Nat)|opt(c:Bool)(s:AQ)|same(t:Nat)|KE(t j sz:Nat)|bpf(t off:Nat)|gone|buf(E:Am)(sz:Nat)(l:A3 Ty)|Nt(x:AV)(E:Am)(sz:Nat)(l:A3 Ty)|D7(T:Am)(agg:Bool)(ps:A3 Bt)|Gm(K E:Am)(Eb:Am)(sz:Nat)(EZ:A3 (Ty×DC))|R2(Eb:Am)(sz:Nat)(l:A3 Ty)(i:Nat)|inv(I:Inv)|KM(t:Nat)(v:AV)|Dt(l:Nat)(rc:Loop)|JL(L:A3 (Ty×Ty))(seen:A3 Nat)|vec(k:AA FuncId)(us:A3 Nat)|Sh(t:Nat)(i:Int)|I5(T E:Am)(l:A3 Ty)|Ew(E:Am)(pre post:A3 AV)(l:A3 Ty)|win(t j n sz:Nat)|N7(t i sz:Nat)
def Ae(a:Act)(t:Nat):AV:=a.tmps.getD t undef
def ax(a:Act)(k:AA FuncId)(us:A3 Nat):AV:=match k with|none=> .agg (us.map<|Ae a).toArray|some f=> .func (.func f) #[] (us.map<|Ae a).toArray
def Ke(B:Aj P)(w:AR)(H:HV)(E:Am)(sz:Nat)(l:A3 Ty)(v:AV):Prop:=∃xs,w.ownsRow 0 E sz v l.length xs/\DT H l xs/\∀b,v.ownBlock=some b->H b=none/\B.EC b
def DC.holds(B:Aj P)(w:AR)(H:HV)(Eb:Am)(sz:Nat)(v:AV):DC->Prop
 | .val τ=>τ.ok H v| .buf l=>Ke B w H Eb sz l v| .any=>True
def DC.owns(v:AV)(b:Nat):DC->Prop
 | .buf _=>v.ownBlock=some b|_=>False
def KN(B:Aj P)(w:AR)(H:HV)(Eb:Am)(sz:Nat):Nat->A3 (Ty×DC)->A3 MapEntry->Prop
 |_,[],[]=>True|i,(k,e)::l,x::xs=>k.ok H x.key/\e.holds B w H Eb sz x.val/\x.born=i/\KN B w H Eb sz (i+1) l xs|_,_,_=>False
def Hn(b:Nat):A3 (Ty×DC)->A3 MapEntry->Prop
 |(_,e)::l,x::xs=>e.owns x.val b\/Hn b l xs|_,_=>False
def Om:A3 (Ty×DC)->A3 MapEntry->Prop
 |(_,e)::l,x::xs=>(∀b,e.owns x.val b-> ¬Hn b l xs)/\Om l xs|_,_=>True
def Qs(B:Aj P)(w:AR)(H:HV)(Eb:Am)(sz:Nat)(EZ:A3 (Ty×DC))(v:AV):Prop:=∃r es,v= .map (some r)/\w.heap[r]? =some (.map es es.size)/\H r=none/\B.EC r/\KN B w H Eb sz 0 EZ es.toList/\Om EZ es.toList
def PU(w:AR)(EZ:A3 (Ty×DC))(v:AV)(b:Nat):Prop:=v= .map (some b)\/∃r es,v= .map (some r)/\w.heap[r]? =some (.map es es.size)/\Hn b EZ es.toList
def Bt.n:Bt->Nat
 | .val τ=>τ.n| .any n _=>n|_=>1
def Bt.agg:Bt->Bool
 | .val τ=>τ.agg| .any _ a=>a|_=>false
def Bt.holds(B:Aj P)(a:Act)(w:AR)(H:HV)(v:AV):Bt->Prop
 | .val τ=>τ.ok H v| .any n g=>Shape n g v| .sm u=>v=Ae a u/\v.oneCell'=true| .buf E sz l=>Ke B w H E sz l v| .map _ _ Eb sz EZ=>Qs B w H Eb sz EZ v
def Bt.owns(w:AR)(v:AV)(b:Nat):Bt->Prop
 | .buf _ _ _=>v.ownBlock=some b| .map _ _ _ _ EZ=>PU w EZ v b|_=>False
def J2(B:Aj P)(a:Act)(w:AR)(H:HV):A3 Bt->A3 AV->Prop
 |[],cs=>cs=[]|p::l,cs=>∃v rest,cs=v.cells.toList++rest/\Shape p.n p.agg v/\p.holds B a w H v/\J2 B a w H l rest
def G9(w:AR)(b:Nat):A3 Bt->A3 AV->Prop
 |[],_=>False|p::l,cs=>p.owns w (Gp p.agg (cs.take p.n).toArray) b\/G9 w b l (cs.drop p.n)
def Ns(w:AR):A3 Bt->A3 AV->Prop
 |[],_=>True|p::l,cs=>(∀b,p.owns w (Gp p.agg (cs.take p.n).toArray) b-> ¬G9 w b l (cs.drop p.n))/\Ns w l (cs.drop p.n)
def AQ.holds(B:Aj P)(a:Act)(w:AR)(H:HV)(v:AV):AQ->Prop
 | .val τ=>τ.ok H v| .LY l=>∃vs,v= .tuple vs/\Ec H l vs.toList| .own T τ=>∃b x,v= .pointer (some ⟨b,0,none⟩)/\w.heap[b]? =some (.cells x.cells T (0,0))/\τ.ok H x/\H b=none/\B.EC b| .ptr t off=>∃b,Ae a t= .pointer (some ⟨b,0,none⟩)/\v= .pointer (some ⟨b,off,none⟩)| .opt c s=>(c=true->s.holds B a w H v)/\(c=false->v=undef)| .same t=>v=Ae a t| .KE t j sz=>∃b len cap,Ae a t= .slice (some ⟨b,0,none⟩) len cap/\v= .pointer (some ⟨b,j*sz,none⟩)| .bpf t off=>∃b len cap,Ae a t= .slice (some ⟨b,0,none⟩) len cap/\v= .pointer (some ⟨b,off,none⟩)| .gone=>True| .buf E sz l=>Ke B w H E sz l v| .Nt x E sz l=>Ke B w H E sz l x| .D7 T _ ps=>∃b cs,v= .pointer (some ⟨b,0,none⟩)/\w.heap[b]? =some (.cells cs T (0,0))/\H b=none/\B.EC b/\J2 B a w H ps cs.toList/\Ns w ps cs.toList/\ ¬G9 w b ps cs.toList| .Gm _ _ Eb sz EZ=>Qs B w H Eb sz EZ v| .R2 Eb sz l i=>∃x,v= .tuple #[x,.int .i64 i]/\Ke B w H Eb sz l x| .inv I=>I.p w H/\I.n=B.lo| .KM t x=>Ae a t=x| .Dt l rc=>w.heap[l]? =some (.loop rc)/\H l=none/\B.EC l| .vec k us=>v=ax a k us| .Sh t i=>∃x,Ae a t= .tuple #[x,.int .i64 i]| .Ew E pre post l=>∃g c cur xs,v= .slice (some ⟨g,pre.length,none⟩) l.length c/\w.heap[g]? =some (.cells cur E (0,0))/\cur.toList=pre++(xs++post)/\DT H l xs/\H g=none/\B.EC g| .win t j n sz=>∃g len cap c,Ae a t= .slice (some ⟨g,0,none⟩) len cap/\v= .slice (some ⟨g,j*sz,none⟩) n c| .N7 t i sz=>∃g o n c,Ae a t= .slice (some ⟨g,o,none⟩) n c/\v= .pointer (some ⟨g,o+i*sz,none⟩)| .I5 T E l=>∃b p r,v= .pointer (some ⟨b,0,none⟩)/\w.heap[b]? =some (.cells #[p,r] T (0,0))/\(p= .pointer none\/p= .pointer (some ⟨b,0,none⟩))/\H b=none/\B.EC b/\Ke B w H E 1 l r/\r.ownBlock≠some b| .JL L seen=>∃r m es sn,v= .pointer (some ⟨r,0,none⟩)/\w.heap[r]? =some (.mapIter (some m) es.size sn es.size)/\H r=none/\B.EC r/\H m=some (.map es es.size)/\okM H 0 L es.toList/\sn.toList=seen
def AQ.owns(w:AR)(v:AV)(b:Nat):AQ->Prop
 | .own _ _=>∃ad,v= .pointer (some ad)/\ad.block=b| .buf _ _ _=>v.ownBlock=some b| .Nt x _ _ _=>x.ownBlock=some b| .opt c s=>c=true/\s.owns w v b| .D7 T _ ps=>∃c,v= .pointer (some ⟨c,0,none⟩)/\(b=c\/∃cs,w.heap[c]? =some (.cells cs T (0,0))/\G9 w b ps cs.toList)| .Gm _ _ _ _ EZ=>PU w EZ v b| .R2 _ _ _ _=>∃x i,v= .tuple #[x,i]/\x.ownBlock=some b| .inv I=>I.M b| .Dt l _=>b=l| .JL _ _=>∃ad,v= .pointer (some ad)/\ad.block=b| .Ew _ _ _ _=>v.ownBlock=some b| .I5 T _ _=>∃c,v= .pointer (some ⟨c,0,none⟩)/\(b=c\/∃p r,w.heap[c]? =some (.cells #[p,r] T (0,0))/\r.ownBlock=some b)|_=>False
def Qq:A3 Bt->A3 Nat
 |[]=>[]| .sm u::l=>u::Qq l|_::l=>Qq l
def AQ.C8:AQ->A3 Nat
 | .ptr t _=>[t]| .same t=>[t]| .KE t _ _=>[t]| .bpf t _=>[t]| .opt _ s=>s.C8| .D7 _ _ ps=>Qq ps| .KM t _=>[t]| .vec _ us=>us| .Sh t _=>[t]| .win t _ _ _=>[t]| .N7 t _ _=>[t]|_=>[]
abbrev Ctx:=A3<|Nat×AQ
def Marks(B:Aj P)(w:AR)(H:HV):A3 Deferred->Prop
 |[]=>True|d::ds=>(∃D,d={target:= .collected D,args:= #[]}/\(B.rd=none->B.n<=D)/\w.heap[D]? =some (.deferred<|some [])/\H D=none/\∀e∈ds,e≠d)/\Marks B w H ds
def Marks.kept{B:Aj P}{w w':AR}{H H':HV}:∀{ds:A3 Deferred},Marks B w H ds->(∀D,({target:= .collected D,args:= #[]}:Deferred)∈ds->w.heap[D]? =some (.deferred<|some [])->H D=none->w'.heap[D]? =some (.deferred<|some [])/\H' D=none)->Marks B w' H' ds
 |[],_,_=>trivial|_::_,⟨⟨D,e,h1,h2,h3,h4⟩,r⟩,k=>⟨⟨D,e,h1,(k D (by simp[e]) h2 h3).1,(k D (by simp[e]) h2 h3).2,h4⟩,r.kept λD hD=>k D<|By _ hD⟩
structure Sat(w0:Aj P)(H0:HV)(N:Nat)(Γ:Ctx)(a:Act)(w:AR)(H:HV):Prop where
 nd:Marks w0 w H (a.defers++w0.ds)
 sz:a.tmps.size=N
 below:Kept w0 w
 FW:w0.Iw=false->∀r,r<w0.n-> ¬w0.X r->H r=H0 r
 sub:∀r o,H r=some o->w.heap[r]? =some o
 holds:∀p∈Γ,p.2.holds w0 a w H<|Ae a p.1
 sep:∀p∈Γ,∀q∈Γ,p.1≠q.1->∀b,p.2.owns w (Ae a p.1) b-> ¬q.2.owns w (Ae a q.1) b
 gl:LP P H
def Sat.weaken{Γ An:Ctx}(h:Sat w0 H0 N Γ a w H)(hs:∀p∈An,p∈Γ):Sat w0 H0 N An a w H:={h with holds:=λp hp=>h.holds p<|hs p hp,sep:=λp hp q hq=>h.sep p (hs p hp) q (hs q hq)}
theorem HG(sub:∀r o,H r=some o->w.heap[r]? =some o){r:Nat}{o:Obj}(h:H r=some o):r<w.heap.size:=by grind
structure Ext(w:AR)(H:HV)(w':AR)(H':HV):Prop where
 below:FO w.heap.size w w'
 le:HV.le H H'
 FW:∀r,r<w.heap.size->H' r=H r
 sub:∀r o,H' r=some o->w'.heap[r]? =some o
def Ext.refl{w:AR}{H:HV}(sub:∀r o,H r=some o->w.heap[r]? =some o):Ext w H w H:=⟨FO.refl _ _,HV.le.refl _,λ_ _=>rfl,sub⟩
def Ext.Ld(h:Ext w H w' H')(n:Nat)(p:Nat->Prop):Far n p w H w' H':=⟨h.below.size,h.below.os,h.below.tape,h.below.output,h.below.drawn,h.le,λb hb _=>h.below.block b hb,λb hb _=>h.FW b hb,h.sub⟩
def Ext.grown(sub:∀r o,H r=some o->w.heap[r]? =some o)(hb:FO w.heap.size w w'):Ext w H w' (grow H w w'):=by
 refine⟨hb,?_,?_,?_⟩
 .intro r o h;have:=HG sub h;simp[grow,this,h]
 .intro r h;simp[grow,h]
 .intro r o h;by_cases hr:r<w.heap.size
  .simp[grow,hr] at h;rw[hb.block r hr];exact sub r o h
  .simpa[grow,hr] using h
def Ext.alloc{w:AR}{H:HV}(sub:∀r o,H r=some o->w.heap[r]? =some o)(o:Obj):Ext w H (w.alloc o) H:=by refine⟨FO.alloc _,HV.le.refl _,λ_ _=>rfl,?_⟩;intro r x h;have:=HG sub h;rw[heap_alloc_old w o this];exact sub r x h
def bN(B:Aj P)(w:AR)(H:HV)(b:Nat):Prop:=b<w.heap.size/\B.EC b/\H b=none/\∃o,w.heap[b]? =some o/\Zx o
def lt_of_heap{o:Obj}(h:w.heap[b]? =some o):b<w.heap.size:=(SK.1 h).1
def I8{sz:Nat}(h:Ke B w H E sz l v)(hb:v.ownBlock=some b):bN B w H b:=by
 let⟨xs,hr,ho,hn⟩:=h;refine⟨(hr.lt b hb).2,(hn b hb).2,(hn b hb).1,?_⟩;obtain⟨_,(⟨e,_⟩|⟨g,cap,cur,e,_,hc,_⟩)⟩:=hr
 .subst e;simp[Value.ownBlock] at hb
 .subst e;simp[Value.ownBlock] at hb;subst hb;exact⟨_,hc,trivial⟩
def xO{B:Aj P}{w:AR}{H:HV}{Eb:Am}{sz:Nat}{b:Nat}:∀{i:Nat} {l:A3 (Ty×DC)} {es:A3 MapEntry},KN B w H Eb sz i l es->Hn b l es->bN B w H b
 |_,[],_,_,h=>by simp[Hn] at h|_,(_,_)::_,[],_,h=>by simp[Hn] at h
 |i,(k,e)::l,x::xs,⟨_,he,_,hr⟩,h=>by
  rcases h with h|h
  .cases e with|val τ=>exact h.elim|any=>exact h.elim|buf l=>exact I8 he h
  .exact xO hr h
def Rz{sz:Nat}{EZ:A3 (Ty×DC)}(h:Qs B w H Eb sz EZ v)(hb:PU w EZ v b):bN B w H b:=by
 let⟨r,es,e,hr,hn,hm,ho,hs⟩:=h;subst e;rcases hb with hb|⟨r',I4,e',Ku,hb⟩
 .cases hb;exact⟨lt_of_heap hr,hm,hn,_,hr,trivial⟩
 .cases e';rw[hr] at Ku;cases Ku;exact xO ho hb
def akH:∀{p:Bt},p.holds B a w H v->p.owns w v b->bN B w H b
 | .val _,_,h=>h.elim| .any _ _,_,h=>h.elim| .sm _,_,h=>h.elim| .buf _ _ _,k,h=>I8 k h| .map _ _ _ _ _,k,h=>Rz k h
theorem QM{p:Bt}{rest:A3 AV}(h:Shape p.n p.agg v):Gp p.agg ((v.cells.toList++rest).take p.n).toArray=v/\(v.cells.toList++rest).drop p.n=rest:=by
 have hs:=h.size;constructor
 .have:(List.take p.n<|v.cells.toList++rest).toArray=v.cells:=by rw[<-hs,<-Fa,iA]
  rw[this];exact h.eq.symm
 .grind
def QG{B:Aj P}{a:Act}{w:AR}{H:HV}{b:Nat}:∀{ps:A3 Bt} {cs:A3 AV},J2 B a w H ps cs->G9 w b ps cs->bN B w H b
 |[],_,_,h=>h.elim
 |p::l,_,⟨v,rest,e,CS,hv,hr⟩,h=>by
  subst e;let⟨e1,e2⟩:=QM (rest:=rest) CS;rcases h with h|h
  .rw[e1] at h;exact akH hv h
  .rw[e2] at h;exact QG hr h
def AQ.JC{B:Aj P}{a:Act}{w:AR}{H:HV}{v:AV}{b:Nat}:∀{s:AQ},s.holds B a w H v->s.owns w v b->b<w.heap.size/\H b=none/\∃o,w.heap[b]? =some o/\Zx o
 | .val _,_,h=>h.elim| .LY _,_,h=>h.elim| .ptr _ _,_,h=>h.elim| .same _,_,h=>h.elim| .KE _ _ _,_,h=>h.elim| .bpf _ _,_,h=>h.elim| .gone,_,h=>h.elim| .KM _ _,_,h=>h.elim| .vec _ _,_,h=>h.elim| .Sh _ _,_,h=>h.elim
 | .own T τ,⟨c,x,e,hb,hx,hn,hB⟩,⟨ad,e',h⟩=>by subst e;cases e';cases h;exact⟨lt_of_heap hb,hn,_,hb,trivial⟩
 | .buf _ _ _,h,k=>⟨(I8 h k).1,(I8 h k).2.2⟩| .Nt _ _ _ _,h,k=>⟨(I8 h k).1,(I8 h k).2.2⟩
 | .D7 T _ ps,⟨c,cs,e,hb,hn,hB,ho,hs,hx⟩,⟨c',e',h⟩=>by
  subst e;cases e';rcases h with h|⟨Dv,Ba,h⟩
  .subst h;exact⟨lt_of_heap hb,hn,_,hb,trivial⟩
  .rw[hb] at Ba;cases Ba;exact⟨(QG ho h).1,(QG ho h).2.2⟩
 | .Gm _ _ _ _ _,h,k=>⟨(Rz h k).1,(Rz h k).2.2⟩
 | .R2 _ _ _ _,⟨x,e,h⟩,⟨x',i',e',k⟩=>by rw[e] at e';cases e';exact⟨(I8 h k).1,(I8 h k).2.2⟩
 | .opt c s,h,⟨hc,k⟩=>AQ.JC (s:=s) (h.1 hc) k| .inv I,⟨h,_⟩,k=>I.lt h k
 | .Dt l _,⟨h,h2,h3⟩,k=>by have k:b=l:=k;subst k;exact⟨lt_of_heap h,h2,_,h,trivial⟩
 | .JL _ _,⟨r,m,es,sn,e,h1,h2,_⟩,⟨ad,e',h⟩=>by subst e;cases e';cases h;exact⟨lt_of_heap h1,h2,_,h1,trivial⟩
 | .win _ _ _ _,_,h=>h.elim| .N7 _ _ _,_,h=>h.elim
 | .Ew _ _ _ _,⟨g,c,cur,xs,e,hb,_,_,hn,_⟩,h=>by subst e;cases h;exact⟨lt_of_heap hb,hn,_,hb,trivial⟩
 | .I5 _ _ _,⟨c,p,r,e,hb,_,hn,_,ho,_⟩,⟨c',e',h⟩=>by
  subst e;cases e';rcases h with h|⟨p',r',Ba,h⟩
  .subst h;exact⟨lt_of_heap hb,hn,_,hb,trivial⟩
  .have e2:=hb.symm.trans Ba;simp at e2;obtain⟨rfl,rfl⟩:=e2;exact⟨(I8 ho h).1,(I8 ho h).2.2⟩
def Vw{sz:Nat}(h:Ke B w H E sz l v)(hle:HV.le H H')
 (hk:∀b,v.ownBlock=some b->w'.heap[b]? =w.heap[b]? /\H' b=H b):Ke B w' H' E sz l v:=by
 let⟨xs,⟨hl,hr⟩,ho,hn⟩:=h;refine⟨xs,⟨hl,?_⟩,QL hle ho,λb hb=>⟨by rw[(hk b hb).2];exact(hn b hb).1,(hn b hb).2⟩⟩;rcases hr with hr|⟨g,cap,cur,e,h1,hc,h2⟩
 .exact .inl hr
 .refine .inr ⟨g,cap,cur,e,h1,?_,h2⟩;rw[(hk g (by rw[e];rfl)).1];exact hc
def pb{B:Aj P}{w w':AR}{H H':HV}{Eb:Am}{sz:Nat}(hle:HV.le H H'):∀{i:Nat} {l:A3 (Ty×DC)} {es:A3 MapEntry},KN B w H Eb sz i l es->(∀b,Hn b l es->w'.heap[b]? =w.heap[b]? /\H' b=H b)->KN B w' H' Eb sz i l es
 |_,[],[],_,_=>trivial|_,[],_::_,h,_=>h.elim|_,(_,_)::_,[],h,_=>h.elim
 |i,(k,e)::l,x::xs,⟨hk,he,hb,hr⟩,hx=>by refine⟨k.mono hle hk,?_,hb,pb hle hr λb h=>hx b<| .inr h⟩;cases e with|val τ=>exact τ.mono hle he|any=>trivial|buf l=>exact Vw he hle λb h=>hx b<| .inl h
theorem zr{sz:Nat}{EZ:A3 (Ty×DC)}(h:Qs B w H Eb sz EZ v)(hle:HV.le H H')
 (hk:∀b,PU w EZ v b->w'.heap[b]? =w.heap[b]? /\H' b=H b):Qs B w' H' Eb sz EZ v/\∀b,PU w' EZ v b↔PU w EZ v b:=by
 let⟨r,es,e,hr,hn,hm,ho,hs⟩:=h;subst e;have k0:=hk r<| .inl rfl
 have Ku:w'.heap[r]? =some (.map es es.size):=by grind
 refine⟨⟨r,es,rfl,Ku,by rw[k0.2];exact hn,hm,pb hle ho λb h=>hk b<| .inr ⟨r,es,rfl,hr,h⟩,hs⟩,λb=>?_⟩;constructor
 .rintro(h|⟨r1,es1,e1,h1,h2⟩)
  .exact .inl h
  .cases e1;rw[Ku] at h1;cases h1;exact .inr ⟨r,es,rfl,hr,h2⟩
 .rintro(h|⟨r1,es1,e1,h1,h2⟩)
  .exact .inl h
  .cases e1;rw[hr] at h1;cases h1;exact .inr ⟨r,es,rfl,Ku,h2⟩
def akI(hle:HV.le H H'):∀{p:Bt},p.holds B a w H v->(∀b,p.owns w v b->w'.heap[b]? =w.heap[b]? /\H' b=H b)->p.holds B a w' H' v/\∀b,p.owns w' v b↔p.owns w v b
 | .val τ,h,_=>⟨τ.mono hle h,λ_=>Iff.rfl⟩| .any _ _,h,_=>⟨h,λ_=>Iff.rfl⟩| .sm _,h,_=>⟨h,λ_=>Iff.rfl⟩| .buf _ _ _,h,k=>⟨Vw h hle k,λ_=>Iff.rfl⟩| .map _ _ _ _ _,h,k=>zr h hle k
def gW{B:Aj P}{a:Act}{w w':AR}{H H':HV}(hle:HV.le H H'):∀{ps:A3 Bt} {cs:A3 AV},J2 B a w H ps cs->(∀b,G9 w b ps cs->w'.heap[b]? =w.heap[b]? /\H' b=H b)->J2 B a w' H' ps cs/\(∀b,G9 w' b ps cs↔G9 w b ps cs)/\(Ns w ps cs->Ns w' ps cs)
 |[],_,h,_=>⟨h,λ_=>Iff.rfl,λh=>h⟩
 |p::l,_,⟨v,rest,e,CS,hv,hr⟩,k=>by
  subst e;let⟨e1,e2⟩:=QM (rest:=rest) CS;simp only[G9,Ns,e1,e2] at k⊢;let⟨h1,h2⟩:=akI hle hv λb h=>k b<| .inl h
  let⟨h3,h4,h5⟩:=gW hle hr λb h=>k b<| .inr h
  refine⟨⟨v,rest,rfl,CS,h1,h3⟩,λb=>or_congr (h2 b)<|h4 b,λ⟨a1,a2⟩=>⟨λb hb=>?_,h5 a2⟩⟩;rw[h4];exact a1 b<|(h2 b).1 hb
def AQ.Ev:AQ->Bool
 | .inv _=>true| .opt _ s=>s.Ev|_=>false
theorem AQ.VZ{B:Aj P}{a:Act}{w w':AR}{H H':HV}{v:AV}{n:Nat}:∀{s:AQ},s.holds B a w H v->(s.Ev=true->n=B.lo)->Far n (λb=>s.owns w v b) w H w' H'->s.holds B a w' H' v/\∀b,s.owns w' v b↔s.owns w v b
 | .val τ,h,_,F=>⟨τ.mono F.le h,λ_=>Iff.rfl⟩| .LY _,⟨vs,e,k⟩,_,F=>⟨⟨vs,e,Yl F.le k⟩,λ_=>Iff.rfl⟩
 | .own T τ,⟨b,x,e,hb,hx,hn,hB⟩,_,F=>by subst e;have hlt:=lt_of_heap hb;have ho:(AQ.own T τ).owns w (.pointer<|some ⟨b,0,none⟩) b:=⟨_,rfl,rfl⟩;exact⟨⟨b,x,rfl,by rw[F.E3 b hlt<| .inr ho];exact hb,τ.mono F.le hx,by rw[F.view b hlt<| .inr ho];exact hn,hB⟩,λ_=>Iff.rfl⟩
 | .ptr _ _,h,_,_=>⟨h,λ_=>Iff.rfl⟩
 | .opt c s,h,hi,F=>by
  cases c with
  |false=>exact⟨⟨(λe=>by cases e),h.2⟩,λb=>by simp[AQ.owns]⟩
  |true=>
   let⟨h1,h2⟩:=VZ (s:=s) (h.1 rfl) hi<|F.imp (BK _) λb hb=>⟨rfl,hb⟩
   exact⟨⟨λ_=>h1,h.2⟩,λb=>by simp[AQ.owns,h2]⟩
 | .same _,h,_,_=>⟨h,λ_=>Iff.rfl⟩| .KE _ _ _,h,_,_=>⟨h,λ_=>Iff.rfl⟩| .bpf _ _,h,_,_=>⟨h,λ_=>Iff.rfl⟩| .gone,h,_,_=>⟨h,λ_=>Iff.rfl⟩| .KM _ _,h,_,_=>⟨h,λ_=>Iff.rfl⟩| .vec _ _,h,_,_=>⟨h,λ_=>Iff.rfl⟩| .Sh _ _,h,_,_=>⟨h,λ_=>Iff.rfl⟩| .buf _ _ _,h,_,F=>⟨Vw h F.le λb hb=>⟨F.E3 b (I8 h hb).1<| .inr hb,F.view b (I8 h hb).1<| .inr hb⟩,λ_=>Iff.rfl⟩| .Nt _ _ _ _,h,_,F=>⟨Vw h F.le λb hb=>⟨F.E3 b (I8 h hb).1<| .inr hb,F.view b (I8 h hb).1<| .inr hb⟩,λ_=>Iff.rfl⟩
 | .D7 T g ps,⟨c,cs,e,hb,hn,hB,ho,hs,hx⟩,_,F=>by
  subst e;have hlt:=lt_of_heap hb;have oc:(AQ.D7 T g ps).owns w (.pointer<|some ⟨c,0,none⟩) c:=⟨c,rfl,.inl rfl⟩;have op:∀b,G9 w b ps cs.toList->(AQ.D7 T g ps).owns w (.pointer<|some ⟨c,0,none⟩) b:=λb h=>⟨c,rfl,.inr ⟨cs,hb,h⟩⟩
  have Ba:w'.heap[c]? =some (.cells cs T (0,0)):=by rw[F.E3 c hlt<| .inr oc];exact hb
  let⟨h1,h2,h3⟩:=gW F.le ho λb h=>⟨F.E3 b (QG ho h).1<| .inr<|op b h,F.view b (QG ho h).1<| .inr<|op b h⟩
  refine⟨⟨c,cs,rfl,Ba,by rw[F.view c hlt<| .inr oc];exact hn,hB,h1,h3 hs,by rw[h2];exact hx⟩,λb=>?_⟩;constructor
  .rintro⟨c',e',h⟩;cases e';rcases h with h|⟨Dv,FC,h⟩
   .grind
   .grind
  .rintro⟨c',e',h⟩;cases e';rcases h with h|⟨Dv,FC,h⟩
   .exact⟨c,rfl,.inl h⟩
   .rw[hb] at FC;cases FC;exact⟨c,rfl,.inr ⟨cs,Ba,(h2 b).2 h⟩⟩
 | .Gm _ _ _ _ _,h,_,F=>zr h F.le λb hb=>⟨F.E3 b (Rz h hb).1<| .inr hb,F.view b (Rz h hb).1<| .inr hb⟩
 | .R2 _ _ _ _,⟨x,e,h⟩,_,F=>by subst e;exact⟨⟨x,rfl,Vw h F.le λb hb=>⟨F.E3 b (I8 h hb).1<| .inr ⟨x,_,rfl,hb⟩,F.view b (I8 h hb).1<| .inr ⟨x,_,rfl,hb⟩⟩⟩,λ_=>Iff.rfl⟩
 | .Dt l rc,⟨h,h2,h3⟩,_,F=>⟨⟨by rw[F.E3 l (lt_of_heap h)<| .inr rfl];exact h,by rw[F.view l (lt_of_heap h)<| .inr rfl];exact h2,h3⟩,λ_=>Iff.rfl⟩
 | .JL L seen,⟨r,m,es,sn,e,h1,h2,h3,h4,h5,h6⟩,_,F=>by subst e;have ho:(AQ.JL L seen).owns w (.pointer<|some ⟨r,0,none⟩) r:=⟨_,rfl,rfl⟩;exact⟨⟨r,m,es,sn,rfl,by rw[F.E3 r (lt_of_heap h1)<| .inr ho];exact h1,by rw[F.view r (lt_of_heap h1)<| .inr ho];exact h2,h3,F.le _ _ h4,oR F.le h5,h6⟩,λ_=>Iff.rfl⟩
 | .win _ _ _ _,h,_,_=>⟨h,λ_=>Iff.rfl⟩| .N7 _ _ _,h,_,_=>⟨h,λ_=>Iff.rfl⟩
 | .Ew E pre post l,⟨g,c,cur,xs,e,hb,hc,ho,hn,hB⟩,_,F=>by subst e;have oc:(AQ.Ew E pre post l).owns w (.slice (some ⟨g,pre.length,none⟩) l.length c) g:=rfl;exact⟨⟨g,c,cur,xs,rfl,by rw[F.E3 g (lt_of_heap hb)<| .inr oc];exact hb,hc,QL F.le ho,by rw[F.view g (lt_of_heap hb)<| .inr oc];exact hn,hB⟩,λ_=>Iff.rfl⟩
 | .I5 T E l,⟨c,p,r,e,hb,hp,hn,hB,ho,hx⟩,_,F=>by
  subst e;have hlt:=lt_of_heap hb;have oc:(AQ.I5 T E l).owns w (.pointer<|some ⟨c,0,none⟩) c:=⟨c,rfl,.inl rfl⟩;have op:∀b,r.ownBlock=some b->(AQ.I5 T E l).owns w (.pointer<|some ⟨c,0,none⟩) b:=λb h=>⟨c,rfl,.inr ⟨p,r,hb,h⟩⟩
  have Ba:w'.heap[c]? =some (.cells #[p,r] T (0,0)):=by rw[F.E3 c hlt<| .inr oc];exact hb
  have h1:=Vw ho F.le λb h=>⟨F.E3 b (I8 ho h).1<| .inr<|op b h,F.view b (I8 ho h).1<| .inr<|op b h⟩
  refine⟨⟨c,p,r,rfl,Ba,hp,by rw[F.view c hlt<| .inr oc];exact hn,hB,h1,hx⟩,λb=>?_⟩;constructor
  .rintro⟨c',e',h⟩;cases e';rcases h with h|⟨p',r',FC,h⟩
   .grind
   .grind
  .rintro⟨c',e',h⟩;cases e';rcases h with h|⟨p',r',FC,h⟩
   .exact⟨c,rfl,.inl h⟩
   .exact⟨c,rfl,.inr ⟨p',r',by rw[Ba,<-hb];exact FC,h⟩⟩
 | .inv I,⟨h,e⟩,hi,F=>by
  have:n=I.n:=by rw[hi rfl,e]
  exact⟨⟨I.step h<|this▸F,e⟩,λ_=>Iff.rfl⟩
def AQ.YY{s:AQ}(h:s.holds B a w H v)(F:Far B.lo (λb=>s.owns w v b) w H w' H'):s.holds B a w' H' v/\∀b,s.owns w' v b↔s.owns w v b:=AQ.VZ h (λ_=>rfl) F
def AQ.aj9(he:Ext w H w' H'){s:AQ}(h:s.holds B a w H v):s.holds B a w' H' v:=(AQ.YY h<|he.Ld _ _).1
def AQ.fU(he:Ext w H w' H'){s:AQ}(h:s.holds B a w H v)(b:Nat):s.owns w' v b↔s.owns w v b:=(AQ.YY h<|he.Ld _ _).2 b
def PD{t:Nat}(h:d≠t):Ae (a.put (some d) v) t=Ae a t:=by simp[Ae,Act.put,Array.getElem?_setIfInBounds_ne h]
def VT(h:d<a.tmps.size):Ae (a.put (some d) v) d=v:=by simp[Ae,Act.put,h]
def To{B:Aj P}{a a':Act}{w:AR}{H:HV}:∀{ps:A3 Bt} {cs:A3 AV},(∀t∈Qq ps,Ae a' t=Ae a t)->J2 B a w H ps cs->J2 B a' w H ps cs
 |[],_,_,h=>h
 |p::l,_,e,⟨v,rest,e1,CS,hv,hr⟩=>by cases p with|sm u=>exact⟨v,rest,e1,CS,⟨by rw[e u (by simp[Qq])];exact hv.1,hv.2⟩,To (λt ht=>e t (by simp[Qq,ht])) hr⟩|val _=>exact⟨v,rest,e1,CS,hv,To e hr⟩|any _ _=>exact⟨v,rest,e1,CS,hv,To e hr⟩|buf _ _ _=>exact⟨v,rest,e1,CS,hv,To e hr⟩|map _ _ _ _ _=>exact⟨v,rest,e1,CS,hv,To e hr⟩
def AQ.PH{B:Aj P}{a a':Act}{w:AR}{H:HV}{v:AV}:∀{s:AQ},(∀t∈s.C8,Ae a' t=Ae a t)->s.holds B a w H v->s.holds B a' w H v
 | .val _,_,h=>h| .LY _,_,h=>h| .own _ _,_,h=>h| .ptr t off,e,⟨b,h1,h2⟩=>⟨b,by rw[e t (by simp[AQ.C8])];exact h1,h2⟩| .opt c s,e,h=>⟨λhc=>PH (s:=s) e<|h.1 hc,h.2⟩| .same t,e,h=>by show v=_;rw[e t (by simp[AQ.C8])];exact h| .KE t _ _,e,⟨b,len,cap,h1,h2⟩=>⟨b,len,cap,by rw[e t (by simp[AQ.C8])];exact h1,h2⟩| .bpf t _,e,⟨b,len,cap,h1,h2⟩=>⟨b,len,cap,by rw[e t (by simp[AQ.C8])];exact h1,h2⟩| .gone,_,h=>h| .buf _ _ _,_,h=>h| .Nt _ _ _ _,_,h=>h| .D7 _ _ _,e,⟨c,cs,h1,h2,h3,h4,h5,h6⟩=>⟨c,cs,h1,h2,h3,h4,To e h5,h6⟩| .Gm _ _ _ _ _,_,h=>h| .R2 _ _ _ _,_,h=>h| .inv _,_,h=>h| .Sh t i,e,⟨x,h⟩=>⟨x,by rw[e t (by simp[AQ.C8])];exact h⟩
 | .vec k us,e,h=>by have:us.map (Ae a')=us.map (Ae a):=py e;show v=ax a' k us;rw[show ax a' k us=ax a k us by simp[ax,this]];exact h
 | .KM t _,e,h=>by show Ae a' t=_;rw[e t (by simp[AQ.C8])];exact h| .Dt _ _,_,h=>h| .JL _ _,_,h=>h| .I5 _ _ _,_,h=>h| .Ew _ _ _ _,_,h=>h| .win t _ _ _,e,⟨g,len,cap,c,h1,h2⟩=>⟨g,len,cap,c,by rw[e t (by simp[AQ.C8])];exact h1,h2⟩| .N7 t _ _,e,⟨g,o,n,c,h1,h2⟩=>⟨g,o,n,c,by rw[e t (by simp[AQ.C8])];exact h1,h2⟩
def Jl(d:Nat)(Γ:Ctx):Bool:=Γ.all λp=>p.1 !=d&& !p.2.C8.contains d
def YJ{A:Ctx}(h:Jl d A=true):∀p∈A,p.1≠d/\d∉p.2.C8:=by intro p hp;have:=Dj.1 h p hp;simpa using this
def put_defers{d:AA Tmp}:(a.put d v).defers=a.defers:=by cases d<;>rfl
theorem vS{Γ:Ctx}(h:Sat w0 H0 N Γ a w H){s:AQ}(hd:d<N)(hf:Jl d Γ=true)(hl:d∉s.C8)
 (hs:s.holds w0 a w H v)(hfr:∀b,s.owns w v b->∀q∈Γ,¬q.2.owns w (Ae a q.1) b):Sat w0 H0 N ((d,s)::Γ) (a.put (some d) v) w H:=by
 have hd':d<a.tmps.size:=h.sz▸hd;have KA:∀p∈Γ,d≠p.1/\d∉p.2.C8:=λp hp=>⟨λe=>(YJ hf p hp).1 e.symm,(YJ hf p hp).2⟩
 refine⟨by rw[put_defers];exact h.nd,by simp[Act.put,h.sz],h.below,h.FW,h.sub,?_,?_,h.gl⟩
 .intro p hp;rcases Aq.1 hp with e|hp
  .subst e;simp[VT hd'];exact AQ.PH (λt ht=>PD<|λe=>hl<|e▸ht) hs
  .let⟨h1,h2⟩:=KA p hp;rw[PD h1];exact AQ.PH (λt ht=>PD<|λe=>h2<|e▸ht)<|h.holds p hp
 .intro p hp q hq hne b hb Ba;rcases Aq.1 hp with e|hp<;>rcases Aq.1 hq with e'|hq
  .grind
  .subst e;simp[VT hd'] at hb;rw[PD (KA q hq).1] at Ba;exact hfr b hb q hq Ba
  .subst e';simp[VT hd'] at Ba;rw[PD (KA p hp).1] at hb;exact hfr b Ba p hp hb
  .rw[PD (KA p hp).1] at hb;rw[PD (KA q hq).1] at Ba;exact h.sep p hp q hq hne b hb Ba
def fQ{Γ:Ctx}(h:Sat w0 H0 N Γ a w H)(he:Ext w H w' H'):Sat w0 H0 N Γ a w' H':=by
 refine⟨h.nd.kept λD _ h1 h2=>⟨by rw[he.below.block D<|lt_of_heap h1];exact h1,by rw[he.FW D<|lt_of_heap h1];exact h2⟩,h.sz,h.below.step he.below,λhv r hr hx=>?_,he.sub,?_,?_,h.gl.mono he.le⟩
 .rw[he.FW r<|Jj hr h.below.size,h.FW hv r hr hx]
 .intro p hp;exact AQ.aj9 he<|h.holds p hp
 .intro p hp q hq hne b hb Ba;exact h.sep p hp q hq hne b ((AQ.fU he (h.holds p hp) b).1 hb)<|(AQ.fU he (h.holds q hq) b).1 Ba
def Ru{Γ:Ctx}(h:Sat w0 H0 N Γ a w H)(he:Ext w H w' H')
 {s:AQ}(hd:d<N)(hf:Jl d Γ=true)(hl:d∉s.C8)(hs:s.holds w0 a w' H' v)(hfr:∀b,s.owns w' v b->w.heap.size<=b):Sat w0 H0 N ((d,s)::Γ) (a.put (some d) v) w' H':=
 vS (fQ h he) hd hf hl hs λb hb q hq Ba=>by have h1:=hfr b hb;have h2:=(AQ.JC (h.holds q hq)<|(AQ.fU he (h.holds q hq) b).1 Ba).1;omega
def AQ.free:AQ->Bool
 | .own _ _=>false| .buf _ _ _=>false| .Nt _ _ _ _=>false| .opt _ s=>s.free| .D7 _ _ _=>false| .Gm _ _ _ _ _=>false| .R2 _ _ _ _=>false| .inv _=>false| .Dt _ _=>false| .JL _ _=>false| .I5 _ _ _=>false| .Ew _ _ _ _=>false|_=>true
def AQ.free_spec{w:AR}{v:AV}{b:Nat}:∀{s:AQ},s.free=true-> ¬s.owns w v b
 | .val _,_,h=>h| .LY _,_,h=>h| .ptr _ _,_,h=>h| .same _,_,h=>h| .KE _ _ _,_,h=>h| .bpf _ _,_,h=>h| .gone,_,h=>h| .KM _ _,_,h=>h| .vec _ _,_,h=>h| .Sh _ _,_,h=>h| .opt c s,e,h=>AQ.free_spec (s:=s) e h.2| .own _ _,e,_=>by cases e| .buf _ _ _,e,_=>by cases e| .Nt _ _ _ _,e,_=>by cases e| .D7 _ _ _,e,_=>by cases e| .Gm _ _ _ _ _,e,_=>by cases e| .R2 _ _ _ _,e,_=>by cases e| .inv _,e,_=>by cases e| .Dt _ _,e,_=>by cases e| .JL _ _,e,_=>by cases e| .I5 _ _ _,e,_=>by cases e| .Ew _ _ _ _,e,_=>by cases e| .win _ _ _ _,_,h=>h| .N7 _ _ _,_,h=>h
theorem Vl{Γ An:Ctx}{ds:A3 Deferred}(hs:Sat w0 H0 N Γ a w H)(hk:Kept w0 w')(hdr:Gv w w')
 (hold:w0.Iw=false->∀r,r<w0.n-> ¬w0.X r->H' r=H r)(hsz:w.heap.size<=w'.heap.size)(hle:HV.le H H')(BC:∀r o,H' r=some o->w'.heap[r]? =some o)
 (Fi:(∃p∈An,p.2.Ev=true)->∀b,b<w.heap.size->b<w0.lo->w'.heap[b]? =w.heap[b]? /\H' b=H b)
 (hp:∀p∈An,p∈Γ/\∀b,p.2.owns w (Ae a p.1) b->w'.heap[b]? =w.heap[b]? /\H' b=H b)(hm:Marks w0 w' H' (ds++w0.ds)):Sat w0 H0 N An {a with defers:=ds} w' H':=by
 have Ld:∀p∈An,Far (if p.2.Ev then w0.lo else 0) (λb=>p.2.owns w (Ae a p.1) b) w H w' H':=λp h=>by
  have key:∀b,b<w.heap.size->(b<(if p.2.Ev then w0.lo else 0)\/p.2.owns w (Ae a p.1) b)->w'.heap[b]? =w.heap[b]? /\H' b=H b:=λb hb h1=>by
   rcases h1 with h1|h1
   .cases hi:p.2.Ev with|true=>rw[hi,if_pos rfl] at h1;exact Fi ⟨p,h,hi⟩ b hb h1|false=>rw[hi] at h1;simp at h1
   .grind
  exact⟨hsz,hk.os.trans hs.below.os.symm,hk.tape.trans hs.below.tape.symm,hk.output.trans hs.below.output.symm,hdr,hle,λb hb h1=>(key b hb h1).1,λb hb h1=>(key b hb h1).2,BC⟩
 have hh:∀p∈An,p.2.holds w0 a w' H' (Ae a p.1)/\∀b,p.2.owns w' (Ae a p.1) b↔p.2.owns w (Ae a p.1) b:=λp h=>AQ.VZ (hs.holds p (hp p h).1) (λhi=>by rw[hi];rfl)<|Ld p h
 refine⟨hm,hs.sz,hk,λhv r hr hx=>(hold hv r hr hx).trans<|hs.FW hv r hr hx,BC,?_,?_,hs.gl.mono hle⟩
 .exact λp h=>AQ.PH (a:=a) (λ_ _=>rfl) (hh p h).1
 .exact λp h q h' hne b hb Ba=>hs.sep p (hp p h).1 q (hp q h').1 hne b (((hh p h).2 b).1 hb)<|((hh q h').2 b).1 Ba
theorem Vm{sz:Nat}(h:Ke B w H E sz l v)(hm:∀b,v.ownBlock=some b->B'.EC b):Ke B' w H E sz l v:=by grind [Ke,Aj.EC]
def yO{B B':Aj P}{w:AR}{H:HV}{Eb:Am}{sz:Nat}:∀{i:Nat} {l:A3 (Ty×DC)} {es:A3 MapEntry},KN B w H Eb sz i l es->(∀b,Hn b l es->B'.EC b)->KN B' w H Eb sz i l es
 |_,[],[],_,_=>trivial|_,[],_::_,h,_=>h.elim|_,(_,_)::_,[],h,_=>h.elim
 |i,(k,e)::l,x::xs,⟨hk,he,hb,hr⟩,hx=>by refine⟨hk,?_,hb,yO hr λb h=>hx b<| .inr h⟩;cases e with|val τ=>exact he|any=>trivial|buf l=>exact Vm he λb h=>hx b<| .inl h
def yY{sz:Nat}{EZ:A3 (Ty×DC)}(h:Qs B w H Eb sz EZ v)(hm:∀b,PU w EZ v b->B'.EC b):Qs B' w H Eb sz EZ v:=by let⟨r,es,e,hr,hn,_,ho,hs⟩:=h;subst e;exact⟨r,es,rfl,hr,hn,hm r<| .inl rfl,yO ho λb h=>hm b<| .inr ⟨r,es,rfl,hr,h⟩,hs⟩
def yM{B B':Aj P}{a:Act}{w:AR}{H:HV}:∀{ps:A3 Bt} {cs:A3 AV},J2 B a w H ps cs->(∀b,G9 w b ps cs->B'.EC b)->J2 B' a w H ps cs
 |[],_,h,_=>h
 |p::l,_,⟨v,rest,e,CS,hv,hr⟩,k=>by subst e;let⟨e1,e2⟩:=QM (rest:=rest) CS;simp[G9,e1,e2] at k;refine⟨v,rest,rfl,CS,?_,yM hr λb h=>k b<| .inr h⟩;cases p with|val _=>exact hv|any _ _=>exact hv|sm _=>exact hv|buf _ _ _=>exact Vm hv λb h=>k b<| .inl h|map _ _ _ _ _=>exact yY hv λb h=>k b<| .inl h
def AQ.Rc{B B':Aj P}{a:Act}{w:AR}{H:HV}{v:AV}:∀{s:AQ},s.Ev=false->s.holds B a w H v->(∀b,s.owns w v b->B'.EC b)->s.holds B' a w H v
 | .val _,_,h,_=>h| .LY _,_,h,_=>h| .own _ _,_,⟨b,x,e,h1,h2,h3,_⟩,k=>⟨b,x,e,h1,h2,h3,k b ⟨_,e,rfl⟩⟩| .ptr _ _,_,h,_=>h| .opt c s,hi,h,k=>⟨λhc=>AQ.Rc (s:=s) hi (h.1 hc) λb hb=>k b ⟨hc,hb⟩,h.2⟩| .same _,_,h,_=>h| .KE _ _ _,_,h,_=>h| .bpf _ _,_,h,_=>h| .gone,_,h,_=>h| .buf _ _ _,_,h,k=>Vm h k| .Nt _ _ _ _,_,h,k=>Vm h k| .D7 _ _ _,_,⟨c,cs,e,hb,hn,_,ho,hs,hx⟩,k=>⟨c,cs,e,hb,hn,k c ⟨c,e,.inl rfl⟩,yM ho λb h=>k b ⟨c,e,.inr ⟨cs,hb,h⟩⟩,hs,hx⟩| .Gm _ _ _ _ _,_,h,k=>yY h k| .R2 _ _ _ _,_,⟨x,e,h⟩,k=>⟨x,e,Vm h λb hb=>k b ⟨x,_,e,hb⟩⟩| .inv _,hi,_,_=>by cases hi| .KM _ _,_,h,_=>h| .vec _ _,_,h,_=>h| .Sh _ _,_,h,_=>h| .Dt l _,_,⟨h1,h2,_⟩,k=>⟨h1,h2,k l rfl⟩| .JL _ _,_,⟨r,m,es,sn,e,h1,h2,_,h4⟩,k=>⟨r,m,es,sn,e,h1,h2,k r ⟨_,e,rfl⟩,h4⟩| .win _ _ _ _,_,h,_=>h| .N7 _ _ _,_,h,_=>h| .Ew _ _ _ _,_,⟨g,c,cur,xs,e,hb,hc,ho,hn,_⟩,k=>⟨g,c,cur,xs,e,hb,hc,ho,hn,k g (by rw[e];rfl)⟩| .I5 _ _ _,_,⟨c,p,r,e,hb,hp,hn,_,ho,hx⟩,k=>⟨c,p,r,e,hb,hp,hn,k c ⟨c,e,.inl rfl⟩,Vm ho λb h=>k b ⟨c,e,.inr ⟨p,r,hb,h⟩⟩,hx⟩
def AQ.PI{B:Aj P}{a:Act}{w:AR}{H:HV}{v:AV}{b:Nat}:∀{s:AQ},s.Ev=false->s.holds B a w H v->s.owns w v b->B.EC b
 | .val _,_,_,h=>h.elim| .LY _,_,_,h=>h.elim| .ptr _ _,_,_,h=>h.elim| .same _,_,_,h=>h.elim| .KE _ _ _,_,_,h=>h.elim| .bpf _ _,_,_,h=>h.elim| .gone,_,_,h=>h.elim| .KM _ _,_,_,h=>h.elim| .vec _ _,_,_,h=>h.elim| .Sh _ _,_,_,h=>h.elim
 | .own T τ,_,⟨c,x,e,hb,hx,hn,hB⟩,⟨ad,e',h⟩=>by subst e;cases e';cases h;exact hB
 | .buf _ _ _,_,h,k=>(I8 h k).2.1| .Nt _ _ _ _,_,h,k=>(I8 h k).2.1
 | .D7 T _ ps,_,⟨c,cs,e,hb,hn,hB,ho,hs,hx⟩,⟨c',e',h⟩=>by
  subst e;cases e';rcases h with h|⟨Dv,Ba,h⟩
  .subst h;exact hB
  .rw[hb] at Ba;cases Ba;exact(QG ho h).2.1
 | .Gm _ _ _ _ _,_,h,k=>(Rz h k).2.1
 | .R2 _ _ _ _,_,⟨x,e,h⟩,⟨x',i',e',k⟩=>by rw[e] at e';cases e';exact(I8 h k).2.1
 | .opt c s,hi,h,⟨hc,k⟩=>AQ.PI (s:=s) hi (h.1 hc) k| .inv _,hi,_,_=>by cases hi
 | .Dt l _,_,⟨_,_,h3⟩,k=>by have k:b=l:=k;subst k;exact h3
 | .JL _ _,_,⟨r,m,es,sn,e,_,_,h3,_⟩,⟨ad,e',h⟩=>by subst e;cases e';cases h;exact h3
 | .win _ _ _ _,_,_,h=>h.elim| .N7 _ _ _,_,_,h=>h.elim
 | .Ew _ _ _ _,_,⟨g,c,cur,xs,e,hb,_,_,hn,hB⟩,h=>by subst e;cases h;exact hB
 | .I5 _ _ _,_,⟨c,p,r,e,hb,_,_,hB,ho,_⟩,⟨c',e',h⟩=>by
  subst e;cases e';rcases h with h|⟨p',r',Ba,h⟩
  .subst h;exact hB
  .have e2:=hb.symm.trans Ba;simp at e2;obtain⟨rfl,rfl⟩:=e2;exact(I8 ho h).2.1
end
section
variable[D:DR]
variable{d:Nat}
def look:Ctx->Nat->AA AQ
 |[],_=>none
 |(k,s)::Γ,t=>match Nat.beq k t with|true=>some s|false=>look Γ t
def B6:∀{Γ:Ctx} {t:Nat} {s:AQ},look Γ t=some s->(t,s)∈Γ
 |[],_,_,h=>by simp[look] at h
 |(k,s')::Γ,t,s,h=>by
  simp[look] at h;cases hb:Nat.beq k t
  .rw[hb] at h;exact By _<|B6 h
  .rw[hb] at h;have:=E9 hb;simp at h;subst this;subst h;simp
def AQ.LO(s:AQ)(d:Nat):Bool:=s.C8.any λt=>Nat.beq t d
def YR{s:AQ}(h:s.LO d=false):d∉s.C8:=λhm=>by have:=ZV.1 h d hm;simp at this
theorem ahL{s:AQ}(h:d∉s.C8):s.LO d=false:=by(simp_all [AQ.C8,AQ.LO]<;>grind)
def del(d:Nat):Ctx->Ctx
 |[]=>[]|p::Γ=>bif Nat.beq p.1 d||p.2.LO d then del d Γ else p::del d Γ
def ML{d:Nat}:∀{Γ:Ctx},∀p∈del d Γ,p∈Γ
 |[],p,h=>by simp[del] at h
 |q::Γ,p,h=>by
  simp[del] at h;cases hb:(Nat.beq q.1 d||q.2.LO d)
  .rw[hb] at h;rcases Aq.1 h with e|h
   .simp[e]
   .exact By _<|ML p h
  .rw[hb] at h;exact By _<|ML p h
def PN{d:Nat}:∀{Γ:Ctx},Jl d (del d Γ)=true
 |[]=>rfl
 |q::Γ=>by
  simp[del];cases hb:(Nat.beq q.1 d||q.2.LO d)
  .simp[As];have ih:=PN (d:=d) (Γ:=Γ);simp[Jl,OM,C4] at ih⊢;refine⟨?_,ih⟩;simp at hb;refine⟨by simpa using Nat.ne_of_beq_eq_false hb.1,?_⟩;simpa using YR hb.2
  .simpa using PN (d:=d) (Γ:=Γ)
inductive ES(Γ:Ctx):A3 Nat->Ctx->Prop where
 |nil:ES Γ [] []|cons {t:Nat} {s:AQ} {ts:A3 Nat} {An:Ctx} (h:look Γ t=some s) (r:ES Γ ts An):ES Γ (t::ts) ((t,s)::An)
def ES.sub{Γ:Ctx}{ts:A3 Nat}{An:Ctx}(h:ES Γ ts An):∀p∈An,p∈Γ:=by
 induction h with
 |nil=>simp
 |cons h _ ih=>
  intro p hp;rcases Aq.1 hp with e|hp
  .subst e;exact B6 h
  .exact ih p hp
theorem ES.keys{Γ:Ctx}{ts:A3 Nat}{An:Ctx}(h:ES Γ ts An):∀p∈An,p.1∈ts:=by
 induction h with
 |nil=>simp
 |cons h _ ih=>
  intro p hp;rcases Aq.1 hp with e|hp
  .subst e;simp
  .grind
def Ay(P:CF)(Γ:Ctx)(o:Oper)(s:AQ):Prop:=
 ∀(w0:Aj P) (H0:HV) (N:Nat) (a:Act) (w:AR) (H:HV),Sat w0 H0 N Γ a w H->∀(K:Act->AR->Prop) (Q:Exit->Act->AR->Prop),(∀v w' H',Ext w H w' H'->s.holds w0 a w' H' v->(∀b,s.owns w' v b->w.heap.size<=b)->K (a.put o.dst v) w')->o.wp P a w K Q
def Step(P:CF)(N:Nat)(ops:B8 Oper)(o:Oper)(Γ An:Ctx):Prop:=
 ∀(w0:Aj P) (H0:HV) (a:Act) (w:AR) (H:HV),Sat w0 H0 N Γ a w H->∀(K:Act->AR->Prop) (Q:Exit->Act->AR->Prop),(∀a' w' H',Sat w0 H0 N An a' w' H'->K a' w')->if Region.wanted o (yielded ops a.tmps) then o.wp P a w K Q else K (a.put o.dst undef) w
end
section
variable[D:DR]
variable{P:Program}{N:Nat}{ops:Array Oper}{Γ An Em Ta:Ctx}
variable{d:Nat}{s:AQ}{j dj:Nat}{b:Bool}{H0:HV}{a:Act}{H:HV}{e want:Bool}
def Step.pure{o:Oper}(h:Ay P Γ o s)(hg:o.guard=none)(hd:o.dst=some d)(hN:d<N)(hf:Jl d Γ=true)(hl:s.LO d=false):Step P N ops o Γ ((d,s)::Γ):=by
 intro w0 H0 a w H hs K Q k;simp[Region.wanted,hg,if_true];refine h w0 H0 N a w H hs K Q λv w' H' he hv hb=>?_
 rw[hd];exact k _ _ _<|Ru hs he hN hf (YR hl) hv hb
def Step.over{o:Oper}(h:Ay P Γ o s)(hg:o.guard=none)(hd:o.dst=some d)(hN:d<N)(hl:s.LO d=false):Step P N ops o Γ ((d,s)::del d Γ):=by
 intro w0 H0 a w H hs K Q k;simp[Region.wanted,hg,if_true];refine h w0 H0 N a w H hs K Q λv w' H' he hv hb=>?_
 rw[hd];exact k _ _ _<|Ru (hs.weaken ML) he hN PN (YR hl) hv hb
def gd(b:Bool):Bool->Bool
 |true=>b|false=> !b
def agl{w0:Aj P}{w:AR}(hs:Sat w0 H0 N Γ a w H)(hj:(ops[j]?).bind (·.dst)=some dj)(hl:look Γ dj=some (.val<|Av b))(hN:dj<N):yielded ops a.tmps j=some b:=by
 have h:=hs.holds _<|B6 hl
 have h:Ae a dj= .bool b:=h;have hlt:dj<a.tmps.size:=hs.sz▸hN;simp[yielded,hj,Option.bind_some];simp[Ae,hlt] at h;simp[hlt,h]
def ahx{o:Oper}{w0:Aj P}{w:AR}(hs:Sat w0 H0 N Γ a w H)(hg:o.guard=some (j,want))(hj:(ops[j]?).bind (·.dst)=some dj)(hl:look Γ dj=some (.val<|Av b))(hN:dj<N):Region.wanted o (yielded ops a.tmps)=gd b want:=by simp[Region.wanted,hg,agl hs hj hl hN];cases b<;>cases want<;>rfl
inductive Is(Γ:Ctx)(e:Bool):Ctx->Prop where
 |nil:Is Γ e []|v {t:Nat} {s:AQ} {An:Ctx} (h:look Γ t=some s) (r:Is Γ e An):Is Γ e ((t,s)::An)|o {t:Nat} {s:AQ} {c:Bool} {An:Ctx} (h:look Γ t=some (.opt c s)) (k:e=true->c=true) (r:Is Γ e An):Is Γ e ((t,s)::An)
def Is.mem{Γ An:Ctx}(h:Is Γ e An)(he:e=true):∀p∈An,p∈Γ\/(p.1,AQ.opt true p.2)∈Γ:=by
 induction h with
 |nil=>simp
 |v h _ ih=>
  intro p hp;rcases Aq.1 hp with e|hp
  .subst e;exact .inl<|B6 h
  .exact ih p hp
 |o h k _ ih=>
  intro p hp;rcases Aq.1 hp with e|hp
  .subst e;have:=k he;subst this;exact .inr<|B6 h
  .exact ih p hp
theorem Is.sat{Γ An:Ctx}(h:Is Γ e An)(he:e=true){w0:Aj P}{N:Nat}{w:AR}(hs:Sat w0 H0 N Γ a w H):Sat w0 H0 N An a w H:=by
 have key:∀p∈An,∃s,(p.1,s)∈Γ/\(s.holds w0 a w H (Ae a p.1)->p.2.holds w0 a w H (Ae a p.1))/\∀v b,p.2.owns w v b->s.owns w v b:=by
  intro p hp;rcases h.mem he p hp with h|h
  .grind
  .exact⟨_,h,λk=>k.1 rfl,λv b hb=>⟨rfl,hb⟩⟩
 refine⟨hs.nd,hs.sz,hs.below,hs.FW,hs.sub,?_,?_,hs.gl⟩
 .intro p hp;let⟨s,h1,h2,_⟩:=key p hp;exact h2<|hs.holds _ h1
 .intro p hp q hq hne b hb Ba;let⟨s,h1,_,h3⟩:=key p hp;let⟨s',h1',_,h3'⟩:=key q hq;exact hs.sep _ h1 _ h1' hne b (h3 _ _ hb)<|h3' _ _ Ba
def opO{Ai:Ctx}{o:Oper}(ho:Is Γ e Ai)(h:e=true->Ay P Ai o s):e=true->Ay P Γ o s:=λhe w0 H0 N a w H hs K Q k=>h he w0 H0 N a w H (ho.sat he hs) K Q λv w' H' hx hv hb=>k v w' H' hx hv hb
structure XD(ops:B8 Oper)(N:Nat)(Γ:Ctx)(o:Oper)(e:Bool):Prop where
 w:∀{P':CF} (w0:Aj P') (H0:HV) (a:Act) (w:AR) (H:HV),Sat w0 H0 N Γ a w H->Region.wanted o (yielded ops a.tmps)=e
def XD.v{o:Oper}(hg:o.guard=some (j,want))(hj:(ops[j]?).bind (·.dst)=some dj)(hl:look Γ dj=some (.val<|Av b))(hN:dj<N):XD ops N Γ o (gd b want):=⟨λ_ _ _ _ _ hs=>ahx hs hg hj hl hN⟩
def XD.o{o:Oper}{j dj:Nat}{b c want:Bool}(hg:o.guard=some (j,want))(hj:(ops[j]?).bind (·.dst)=some dj)(hl:look Γ dj=some (.opt c<| .val<|Av b))(hN:dj<N):XD ops N Γ o (c&&gd b want):=
 ⟨λ_ _ a _ _ hs=>by
  have h:=hs.holds _<|B6 hl
  have hlt:dj<a.tmps.size:=hs.sz▸hN;cases c
  .have e:Ae a dj=undef:=h.2 rfl;simp[Ae,hlt] at e;have:yielded ops a.tmps j=none:=by simp[yielded,hj,hlt,e,undef]
   simp[Region.wanted,hg,this]
  .have e:Ae a dj= .bool b:=h.1 rfl;simp[Ae,hlt] at e;have:yielded ops a.tmps j=some b:=by simp[yielded,hj,hlt,e]
   simp[Region.wanted,hg,this,Lq];cases b<;>cases want<;>rfl⟩
def Step.guarded{o:Oper}(hgd:XD ops N Γ o e)
 (h:e=true->Ay P Γ o s)(hd:o.dst=some d)(hN:d<N)(hf:Jl d Γ=true)(hl:s.LO d=false):Step P N ops o Γ ((d,.opt e s)::Γ):=by
 intro w0 H0 a w H hs K Q k;rw[hgd.w w0 H0 a w H hs];have hl':d∉(AQ.opt e s).C8:=YR (s:=s) hl;cases hb:e
 .simp[U7,if_false];rw[hd];subst hb;exact k _ _ _ (Ru hs (Ext.refl hs.sub) hN hf hl' ⟨(λe=>by cases e),λ_=>rfl⟩ (λc e=>by cases e.1))
 .simp[if_true];subst hb;refine h rfl w0 H0 N a w H hs K Q λv w' H' he hv hfr=>?_
  rw[hd];exact k _ _ _ (Ru hs he hN hf hl' ⟨(λ_=>hv),(λe=>by cases e)⟩<|λc e=>hfr c e.2)
def SE(o:Oper):A3 Edge:=o.after.toList.filter<|Region.binds .any
def Np(ops:B8 Oper)(av:A3 (A3 Nat)):Bool:=
 (List.range ops.size).all λi=>match ops[i]? with
  |none=>false
  |some o=>((SE o).all λe=>decide<|e.on<i)&&
   (av.getD i []).all λj=>(SE o).any λe=>e.on==j||(av.getD e.on []).contains j
def Qg(ops:B8 Oper)(k:Nat)(av:A3 (A3 Nat)):Bool:=decide (k<=ops.size)&&(List.range ops.size).all λi=>decide (i<k)||(List.range i).all λj=>(av.getD i []).contains j
def meets(x:A3 (Nat×A3 Nat))(l:A3 Nat):Bool:=x.any λp=>l.contains p.1
def St(k:Nat)(kl:A3 (A3<|Nat×A3 Nat))(Dq:A3 (A3 Nat))(Dp:A3 Bool)(L:A3 Nat)(av:A3 (A3 Nat)):Bool:=
 ((List.range k).all λj=>(List.range j).all λi=>(!(meets (kl.getD i []) (Dq.getD j [])||meets (kl.getD i []) ((kl.getD j []).map (·.1))||meets (kl.getD j []) (Dq.getD i [])))||(av.getD j []).contains i)&&
 ((List.range k).all λj=> !(Dp.getD j true)||(!(meets ((kl.getD j []).take 1) L)&&(List.range k).all λi=>(kl.getD i []).all λp=>p.2.all λt=>!(meets ((kl.getD j []).take 1) [t])||(i !=j&&(meets (kl.getD j []) [p.1]||(av.getD i []).contains j||(av.getD j []).any λm=>decide (i<m)&&meets (kl.getD m []) [p.1]))||(i==j&& !(meets ((kl.getD j []).take 1) [p.1]))))
def OQ:Ctx->A3 Nat
 |[]=>[]|p::Γ=>p.2.C8++OQ Γ
def o8:∀{Γ:Ctx} {q:Nat×AQ} {t:Nat},q∈Γ->t∈q.2.C8->t∈OQ Γ
 |p::Γ,q,t,h,e=>by
  rcases Aq.1 h with h|h
  .subst h;simp[OQ,e]
  .have:=o8 h e;simp[OQ,this]
def BF(d:Nat):Ctx->Ctx
 |[]=>[]|p::Γ=>bif Nat.beq p.1 d then BF d Γ else p::BF d Γ
def DL{d:Nat}:∀{Γ:Ctx},∀p∈BF d Γ,p∈Γ/\p.1≠d
 |[],p,h=>by simp[BF] at h
 |q::Γ,p,h=>by
  simp[BF] at h;cases hb:Nat.beq q.1 d
  .rw[hb] at h;rcases Aq.1 h with e|h
   .subst e;exact⟨by simp,Nat.ne_of_beq_eq_false hb⟩
   .exact⟨By _ (DL p h).1,(DL p h).2⟩
  .rw[hb] at h;exact⟨By _ (DL p h).1,(DL p h).2⟩
theorem PL{d:Nat}:∀{Γ:Ctx} {p:Nat×AQ},p∈Γ->p.1≠d->p∈BF d Γ
 |q::Γ,p,h,hn=>by
  simp[BF];rcases Aq.1 h with e|h
  .subst e;cases hb:Nat.beq p.1 d
   .simp
   .exact absurd (E9 hb) hn
  .have:=PL h hn;cases Nat.beq q.1 d
   .grind
   .exact this
def Ov(P:CF)(N:Nat)(ops:B8 Oper)(Ai:Ctx)(o:Oper)(t:Nat)(s:AQ):Prop:=∀EK:Ctx,(∀q∈Ai,q∈EK)->Step P N ops o EK ((t,s)::BF t EK)
def kH(ks:A3 Nat)(Γ:Ctx):Ctx:=Γ.filter λq=> !ks.contains q.1
def Yo{ks:A3 Nat}{Γ:Ctx}{q:Nat×AQ}:q∈kH ks Γ↔q∈Γ/\q.1∉ks:=by simp[kH]
def Q2(P:CF)(N:Nat)(ops:B8 Oper)(Ai:Ctx)(o:Oper)(t d:Nat)(s:AQ):Prop:=∀EK:Ctx,(∀q∈Ai,q∈EK)->Step P N ops o EK ((d,s)::del d (BF t EK))
def kI(P:CF)(N:Nat)(ops:B8 Oper)(Ai:Ctx)(o:Oper)(t:Nat)(s':AQ)(d:Nat)(s:AQ):Prop:=∀EK:Ctx,(∀q∈Ai,q∈EK)->Step P N ops o EK ((d,s)::(t,s')::del d (BF t EK))
def acj(P:CF)(N:Nat)(ops:B8 Oper)(put:Bool)(c Ai:Ctx)(o:Oper):Prop:=∀EK:Ctx,(∀q∈Ai,q∈EK)->(put=true->∀q∈EK,q.1∉c.map (·.1)->∀p∈c.take 1,p.1∉q.2.C8)->(put=true->∀q∈c.take 1,∀p∈c.take 1,p.1∉q.2.C8)->∃An:Ctx,Step P N ops o EK An/\∀q,q∈c++kH (c.map (·.1)) EK->q∈An
inductive Er(P:CF)(N:Nat)(ops:B8 Oper)(Γ:Ctx):A3 Ctx->A3 Oper->A3 (A3 Nat)->A3 Bool->A3 Ctx->Prop where
 |nil {acc:A3 Ctx}:Er P N ops Γ acc [] [] [] acc
 |gen {acc S:A3 Ctx} {Ai c:Ctx} {o:Oper} {l:A3 Oper} {ts:A3 Nat} {Dq:A3 (A3 Nat)} {put:Bool} {Dp:A3 Bool}
   (hs:ES (acc.flatten++Γ) ts Ai) (h:acj P N ops put c Ai o) (r:Er P N ops Γ (c::acc) l Dq Dp S):Er P N ops Γ acc (o::l) (ts::Dq) (put::Dp) S
theorem agQ{A B:Ctx}{t:Nat}(h:look (A++B) t=some s):look A t=some s\/((∀q∈A,q.1≠t)/\look B t=some s):=by
 induction A with
 |nil=>exact .inr ⟨(λq hq=>by cases hq),h⟩
 |cons p A ih=>
  let⟨k,s'⟩:=p;simp only[SA,look] at h⊢;cases hb:Nat.beq k t
  .rw[hb] at h;rcases ih h with h|⟨h1,h2⟩
   .exact .inl h
   .refine .inr ⟨λq hq=>?_,h2⟩;rcases Aq.1 hq with e|hq
    .subst e;exact Nat.ne_of_beq_eq_false hb
    .exact h1 q hq
  .grind
def At(Γ:Ctx)(S:A3 Ctx)(i:Nat)(q:Nat×AQ):Prop:=(∃j c,j<i/\S[j]? =some c/\q∈c/\∀j' c',j<j'->j'<i->S[j']? =some c'->∀q'∈c',q'.1≠q.1)\/(q∈Γ/\∀j c',j<i->S[j]? =some c'->∀q'∈c',q'.1≠q.1)
theorem nR{Γ:Ctx}{t:Nat}{s:AQ}{S:A3 Ctx}:∀{acc:A3 Ctx},(∀j,j<acc.length->S[j]? =acc.reverse[j]?)->look (acc.flatten++Γ) t=some s->At Γ S acc.length (t,s)
 |[],_,h=> .inr ⟨B6 (by simpa using h),λj c' hj=>by simp at hj⟩
 |c::acc,hS,h=>by
  have aqg:S[acc.length]? =some c:=by grind
  rw[List.flatten_cons,HY] at h;rcases agQ h with h|⟨h1,h2⟩
  .exact .inl ⟨acc.length,c,by simp,aqg,B6 h,λj' c' h3 h4=>by simp at h4;omega⟩
  .have ih:=nR (acc:=acc) (λj hj=>by rw[hS j (by simp;omega),List.reverse_cons,MT (by simpa using hj)]) h2
   rcases ih with⟨j,c0,k1,k2,k3,k4⟩|⟨k1,k2⟩
   .refine .inl ⟨j,c0,by simp;omega,k2,k3,λj' c' h3 h4 h5=>?_⟩;simp at h4;by_cases e:j'=acc.length
    .grind
    .grind
   .refine .inr ⟨k1,λj' c' h4 h5=>?_⟩;simp at h4;by_cases e:j'=acc.length
    .grind
    .grind
structure abQ(P:CF)(N:Nat)(ops:B8 Oper)(Γ:Ctx)(ts:A3 Nat)(put:Bool)(S:A3 Ctx)(i:Nat)(o:Oper)(c:Ctx):Prop where
 exec:∃Ai:Ctx,acj P N ops put c Ai o/\∀q∈Ai,q.1∈ts/\At Γ S i q
def ES.looks{Γ:Ctx}{ts:A3 Nat}{An:Ctx}(h:ES Γ ts An):∀p∈An,look Γ p.1=some p.2:=by
 induction h with
 |nil=>simp
 |cons h _ ih=>
  intro p hp;rcases Aq.1 hp with e|hp
  .subst e;exact h
  .exact ih p hp
def yH{EK:Ctx}(h:∀q∈EK,q.1≠d->d∉q.2.C8):Jl d (BF d EK)=true:=by simp only[Jl,Dj,C4,MI,ne_eq];exact λq hq=>⟨(DL q hq).2,by simpa using h q (DL q hq).1 (DL q hq).2⟩
def Sat.anc{P:CF}{w0:Aj P}{w:AR}(hs:Sat w0 H0 N Γ a w H)(t:Nat):Sat w0 H0 N ((t,.gone)::Γ) a w H:=by
 refine⟨hs.nd,hs.sz,hs.below,hs.FW,hs.sub,?_,?_,hs.gl⟩
 .intro p hp;rcases Aq.1 hp with e|hp
  .subst e;trivial
  .exact hs.holds p hp
 .intro p hp q hq hne b hb Ba;rcases Aq.1 hp with e|hp
  .subst e;exact hb.elim
  .rcases Aq.1 hq with e|hq
   .subst e;exact Ba.elim
   .exact hs.sep p hp q hq hne b hb Ba
def Step.gone{o:Oper}(h:Step P N ops o Γ An)(t:Nat):Step P N ops o Γ ((t,.gone)::An):=λw0 H0 a w H hs K Q k=>h w0 H0 a w H hs K Q λa' w' H' DO=>k a' w' H'<|DO.anc t
def Step.abv{o:Oper}(h:Step P N ops o Γ An):∀gs:A3 Nat,Step P N ops o Γ ((gs.map λu=>(u,AQ.gone))++An)
 |[]=>h|u::gs=>(Step.abv h gs).gone u
theorem pf{EK:Ctx}{p q:Nat×AQ}(h:q∈[p]++kH ([p].map (·.1)) EK):q∈p::BF p.1 EK:=by
 rcases C3.1 h with h|h
 .grind
 .let⟨h1,h2⟩:=Yo.1 h;exact By _ (PL h1 (by simpa using h2))
theorem Ry{d:Nat}:∀{Γ:Ctx} {p:Nat×AQ},p∈Γ->p.1≠d->d∉p.2.C8->p∈del d Γ
 |q::Γ,p,h,hn,hl=>by
  simp[del];have hq:(Nat.beq p.1 d||p.2.LO d)=false:=by rw[MS];exact⟨by cases hb:Nat.beq p.1 d;rfl;exact absurd (E9 hb) hn,ahL hl⟩
  rcases Aq.1 h with e|h
  .grind
  .have:=Ry h hn hl;cases(Nat.beq q.1 d||q.2.LO d)
   .grind
   .exact this
def Er.at_{acc:A3 Ctx}{l:A3 Oper}{Dq:A3 (A3 Nat)}{Dp:A3 Bool}{S:A3 Ctx}(h:Er P N ops Γ acc l Dq Dp S):(∃S',S=S'++acc/\S'.length=l.length)/\Dq.length=l.length/\Dp.length=l.length/\∀(i:Nat) (o:Oper) (ts:A3 Nat) (put:Bool),l[i]? =some o->Dq[i]? =some ts->Dp[i]? =some put->∃p,S.reverse[acc.length+i]? =some p/\abQ P N ops Γ ts put S.reverse (acc.length+i) o p:=by
 have step:∀{acc:A3 Ctx} {c:Ctx} {l:A3 Oper} {S:A3 Ctx},(∃S',S=S'++c::acc/\S'.length=l.length)->(∃S',S=S'++acc/\S'.length=l.length+1)/\S.reverse[acc.length]? =some c/\∀j,j<acc.length->S.reverse[j]? =acc.reverse[j]? :=by rintro acc c l S ⟨S',rfl,hl⟩;refine⟨⟨S'++[c],by simp,by simp[hl]⟩,by simp,λj hj=>?_⟩;simp[List.reverse_append,List.reverse_cons,HY];rw[MT (by simpa using hj)]
 induction h with
 |nil=>exact⟨⟨[],by simp⟩,rfl,rfl,λi o _ _ h=>by simp at h⟩
 | @gen acc S Ai c o l ts Dq put Dp hs h r ih=>
  let⟨h1,h2,h3,h4⟩:=ih;let⟨k1,k2,k3⟩:=step h1;refine⟨by simpa using k1,by simp[h2],by simp[h3],?_⟩;intro i o' ts' arq hi hn hp;cases i with
  |zero=>simp at hi hn hp;subst hi;subst hn;subst hp;exact⟨c,by simpa using k2,⟨Ai,h,λq hq=>⟨hs.keys q hq,by simpa using nR k3 (hs.looks q hq)⟩⟩⟩
  |succ i=>
   simp at hi hn hp;let⟨p,hp1,hp2⟩:=h4 i o' ts' arq hi hn hp;have e:acc.length+(i+1)=(c::acc).length+i:=by simp;omega
   rw[e];exact⟨p,hp1,hp2⟩
end
section
variable[D:DR]
variable{P:Program}{N:Nat}{ops:Array Oper}{Γ An Em Ta:Ctx}
variable{acc S:List Ctx}{Γ Ai:Ctx}{o:Oper}{l:List Oper}{ts:List Nat}{Dq:List (List Nat)}{Dp:List Bool}{t d u:Nat}{s s' su:AQ}{e:Bool}(gs:List Nat)(hs:ES (acc.flatten++Γ) ts Ai)
include hs
def Er.cons(h:Ay P Ai o s)(hg:o.guard=none)(hd:o.dst=some d)(hN:d<N)(r:Er P N ops Γ ([(d,s)]::acc) l Dq Dp S):Er P N ops Γ acc (o::l) (ts::Dq) (true::Dp) S:=by
 refine .gen hs (λEK BC KA aW=>?_) r;refine⟨(d,s)::BF d EK,?_,λq hq=>pf hq⟩;intro w0 H0 a w H BD K Q kk;simp[Region.wanted,hg,if_true];refine h w0 H0 N a w H (BD.weaken BC) K Q λv w' H' he hv hb=>?_
 rw[hd];exact kk _ _ _ (Ru (BD.weaken λq hq=>(DL q hq).1) he hN (yH λq hq hn=>KA rfl q hq (by simpa using hn) (d,s) (by simp)) (aW rfl (d,s) (by simp) (d,s) (by simp)) hv hb)
def Er.guarded(hgd:XD ops N Ai o e)(h:e=true->Ay P Ai o s)(hd:o.dst=some d)(hN:d<N)(r:Er P N ops Γ ([(d,.opt e s)]::acc) l Dq Dp S):Er P N ops Γ acc (o::l) (ts::Dq) (true::Dp) S:=by
 refine .gen hs (λEK BC KA aW=>?_) r;refine⟨(d,.opt e s)::BF d EK,?_,λq hq=>pf hq⟩;intro w0 H0 a w H BD K Q kk;rw[hgd.w w0 H0 a w H<|BD.weaken BC];have abi:=BD.weaken (An:=BF d EK) λq hq=>(DL q hq).1
 have hf':Jl d (BF d EK)=true:=yH λq hq hn=>KA rfl q hq (by simpa using hn) (d,.opt e s) (by simp)
 have DO:d∉(AQ.opt e s).C8:=aW rfl (d,.opt e s) (by simp) (d,.opt e s) (by simp);cases hb:e
 .simp[U7,if_false];rw[hd];subst hb;exact kk _ _ _ (Ru abi (Ext.refl BD.sub) hN hf' DO ⟨(λe=>by cases e),λ_=>rfl⟩ (λc e=>by cases e.1))
 .simp[if_true];subst hb;refine h rfl w0 H0 N a w H (BD.weaken BC) K Q λv w' H' he hv hfr=>?_
  rw[hd];exact kk _ _ _ (Ru abi he hN hf' DO ⟨(λ_=>hv),(λe=>by cases e)⟩<|λc e=>hfr c e.2)
def Er.store(h:Ov P N ops Ai o t s)(r:Er P N ops Γ ([(t,s)]::acc) l Dq Dp S):Er P N ops Γ acc (o::l) (ts::Dq) (false::Dp) S:=.gen hs (λEK BC _ _=>⟨_,h EK BC,λq hq=>pf hq⟩) r
theorem Er.auk(h:Q2 P N ops Ai o t d s)(r:Er P N ops Γ (((d,s)::(t,.gone)::gs.map λu=>(u,.gone))::acc) l Dq Dp S):Er P N ops Γ acc (o::l) (ts::Dq) (true::Dp) S:=by
 refine .gen hs (λEK BC KA _=>⟨_,((h EK BC).abv gs).gone t,λq hq=>?_⟩) r;rcases C3.1 hq with hq|hq
 .grind
 .let⟨m1,m2⟩:=Yo.1 hq;have m3:=m2;simp[MK,Aq,not_or] at m2;refine By _<|SB _<|By _<|Ry (PL m1 m2.2.1) m2.1 ?_
  exact KA rfl q m1 m3 (d,s) (by simp)
theorem Er.two(h:kI P N ops Ai o t s' d s)(r:Er P N ops Γ ([(d,s),(t,s')]::acc) l Dq Dp S):Er P N ops Γ acc (o::l) (ts::Dq) (true::Dp) S:=by
 refine .gen hs (λEK BC KA _=>⟨_,h EK BC,λq hq=>?_⟩) r;rcases C3.1 hq with hq|hq
 .grind
 .let⟨m1,m2⟩:=Yo.1 hq;have m3:=m2;simp[MK,ZH,Aq,iG,or_false,not_or] at m2;exact By _ (By _ (Ry (PL m1 m2.2) m2.1 (KA rfl q m1 m3 (d,s) (by simp))))
end
section
variable[D:DR]
variable{P:CF}{w:AR}{o:Oper}{n:Nat}{l:A3 Oper}
def II{P:CF}(w0:Aj P)(N:Nat)(Γ Em:Ctx):Prop:=∀(H0:HV) (a:Act) (w:AR) (H:HV),Sat w0 H0 N Γ a w H->∃H',Sat w0 H0 N Em a w H'
inductive JN(P:CF)(w0:Aj P)(N:Nat)(ops:B8 Oper):A3 Oper->Ctx->Ctx->Prop where
 |done {Γ:Ctx}:JN P w0 N ops [] Γ Γ|fin {Γ An:Ctx} {ts:A3 Nat} (h:ES Γ ts An):JN P w0 N ops [] Γ An|cons {Γ Em Ta:Ctx} {o:Oper} {l:A3 Oper} (h:Step P N ops o Γ Em) (r:JN P w0 N ops l Em Ta):JN P w0 N ops (o::l) Γ Ta|ghost {Γ Em Ta:Ctx} {l:A3 Oper} (h:II w0 N Γ Em) (r:JN P w0 N ops l Em Ta):JN P w0 N ops l Γ Ta
def Fb(rd:AA Nat):Fence:={fn:=λ_=>True,depth:=none,alive:=false,round:=rd}
def abH{rd:AA Nat}{f:FuncId}{args:B8 AV}{R:Ending->AR->Prop}(h:Calls P f args w R):CallsIn (Fb rd) n P f args w R:=(callsIn_wide (n:=n)).2 h
def Z5{rd:AA Nat}{a:Act}{K:Act->AR->Prop}{Q:Exit->Act->AR->Prop}(IV:∀c,o.op≠ .defer c)(h:o.wp P a w K Q):o.wpIn (Fb rd) 0 P a w K Q:=by
 refine⟨λ_ _=>trivial,?_⟩;rw[Oper.semAt_eq _ _ _ IV];unfold Oper.wp at h
 generalize (execOp a.eval o).run P w=r at*
 cases r with
 |ok n w'=>
  cases n<;>simp[Oper.upon] at h<;>first
   |exact h|exact h.elim|exact⟨(λe=>by cases e),abH h⟩|exact⟨(λe=>by cases e),λc cs _=>let⟨v,w2,r1,s⟩:=h c cs;⟨v,w2,r1,stepsIn_wide.2 s⟩⟩
 |halt x w'=>cases x<;>simp[Oper.upon] at h⊢ <;>exact h
def CallsIn.aba{F:Fence}{f:FuncId}{args:B8 AV}{R R':Ending->AR->Prop}(h:CallsIn F n P f args w R)(hr:∀e w',R e w'->R' e w'):CallsIn F n P f args w R':=⟨h.1,λcs hc=>let⟨e,w',fr,r,s⟩:=h.2 cs hc;⟨e,w',fr,hr _ _ r,s⟩⟩
def uj{F:Fence}{a:Act}{K K':Act->AR->Prop}{Q:Exit->Act->AR->Prop}(h:∀a w,K a w->K' a w)(hh:o.wpIn F n P a w K Q):o.wpIn F n P a w K' Q:=by
 refine⟨hh.1,?_⟩;have hh:=hh.2
 generalize (o.semAt F.round a.eval).run P w=r at*
 cases r with
 |ok n w'=>
  cases n<;>simp[Oper.uponIn] at hh⊢ <;>
   first
    |exact h _ _ hh|exact⟨hh.1,CallsIn.aba hh.2 (λe w'' he=>by cases e<;>first|exact h _ _ he|exact he)⟩
    |exact⟨hh.1,RowsIn.mono hh.2<|λ_ _ he=>h _ _ he⟩|exact⟨hh.1,RoundIn.mono hh.2 (λe w'' he=>by cases e<;>first|exact h _ _ he|exact he)⟩
 |halt x w'=>cases x<;>simp only[Oper.uponIn] at hh⊢ <;>exact hh
def Jn(l:A3 Oper):Bool:=l.all λo=>match o.op with| .defer _=>false|_=>true
def nF(h:Jn l=true)(ho:o∈l):∀c,o.op≠ .defer c:=λc e=>by have:=Dj.1 h o ho;simp[e] at this
theorem wC(h:Jn (o::l)=true):Jn l=true:=by grind [Jn]
def JN.sound{w0:Aj P}{N:Nat}{ops:B8 Oper}{Γ An:Ctx}(h:JN P w0 N ops l Γ An):Jn l=true->∀(H0:HV) (a:Act) (w:AR) (H:HV),Sat w0 H0 N Γ a w H->∀(Q:Exit->Act->AR->Prop),(∀a' w' H',Sat w0 H0 N An a' w' H'->Q .normal a' w')->wpListIn (Fb w0.rd) 0 P ops Q l a w:=by
 induction h with
 |done=>exact λ_ _ _ _ H hs _ k=>k _ _ H hs|fin h=>exact λ_ _ _ _ H hs _ k=>k _ _ H<|hs.weaken h.sub
 | @cons _ _ _ o l h _ ih=>
  intro Aw H0 a w H hs Q k;have Es:=h w0 H0 a w H hs (wpListIn (Fb w0.rd) 0 P ops Q l) Q λa' w' H' DO=>ih (wC Aw) H0 a' w' H' DO Q k
  unfold wpListIn;split
  .rename_i hw;rw[if_pos hw] at Es;exact Z5 (nF Aw (by simp)) Es
  .rename_i hw;rw[if_neg hw] at Es;exact⟨λ_ _=>trivial,Es⟩
 |ghost h _ ih=>intro Aw H0 a w H hs Q k;let⟨H',DO⟩:=h H0 a w H hs;exact ih Aw H0 a w H' DO Q k
end
section
variable[D:DR]
variable{P:Program}{ops:Array Oper}{Q:Exit->Act->World->Prop}{F:Fence}
def Qp(F:Fence)(P:CF)(ops:B8 Oper)(Q:Exit->Act->AR->Prop)(i:Nat)(K:Act->AR->Prop)(a:Act)(w:AR):Prop:=
 match ops[i]? with|none=>K a w|some o=>if Region.wanted o (yielded ops a.tmps) then o.wpIn F 0 P a w K Q else(∀f,o.about P w a.eval=some f->F.fn f)/\K (a.put o.dst undef) w
def Pg(F:Fence)(P:CF)(ops:B8 Oper)(Q:Exit->Act->AR->Prop):Nat->B8 Bool->Act->AR->Prop
 |0,listed,a,w=>Region.ready .any ops listed=[]/\Q .normal a w
 |fuel+1,listed,a,w=>
  (Region.ready .any ops listed=[]->Q .normal a w)/\
  ∀i∈Region.ready .any ops listed,Qp F P ops Q i (Pg F P ops Q fuel<|listed.setIfInBounds i true) a w
def afb(i:Nat)(rest:A3 Nat)(a:Act)(w:AR):wpOpsIn F 0 P ops Q (i::rest) a w=Qp F P ops Q i (wpOpsIn F 0 P ops Q rest) a w:=by cases h:ops[i]? <;>simp[wpOpsIn,Qp,h]
def agm{i:Nat}{a:Act}{w:AR}{K K':Act->AR->Prop}(h:∀a w,K a w->K' a w)(hh:Qp F P ops Q i K a w):Qp F P ops Q i K' a w:=by
 unfold Qp at*;split
 .exact h _ _ (by simpa[*] using hh)
 .rename_i o ho;simp[ho] at hh;split
  .rename_i hw;simp[hw,if_true] at hh;exact uj h hh
  .rename_i hw;simp[hw] at hh;exact⟨hh.1,h _ _ hh.2⟩
def af3:∀(fuel t:Nat) (listed:B8 Bool) (a:Act) (w:AR),Pg F P ops Q fuel listed a w->wpOpsIn F 0 P ops Q (Region.linearise.go .any ops fuel t listed []) a w:=by
 intro fuel
 induction fuel with
 |zero=>intro t listed a w h;simpa[Region.linearise.go,wpOpsIn] using h.2
 |succ fuel ih=>
  intro t listed a w h;let⟨h0,h1⟩:=h;simp only[Region.linearise.go];change wpOpsIn F 0 P ops Q (match(Region.ready .any ops listed)[t%(Region.ready .any ops listed).length]? with|some i=>Region.linearise.go .any ops fuel (t/(Region.ready .any ops listed).length) (listed.setIfInBounds i true) [i]|none=>[].reverse) a w
  cases hi:(Region.ready .any ops listed)[t%(Region.ready .any ops listed).length]? with
  |none=>
   have Uf:Region.ready .any ops listed=[]:=by
    cases hr:Region.ready .any ops listed with
    |nil=>rfl
    |cons x xs=>rw[hr] at hi;have hlt:t%(x::xs).length<(x::xs).length:=OL _ (by simp);simp at hi;simp at hlt;omega
   simpa[wpOpsIn] using h0 Uf
  |some i=>simp[];rw[linearise_go_acc,List.reverse_singleton,List.singleton_append,afb];exact agm (λa w=>ih _ _ a w)<|h1 i<|LM hi
def adX{id:Nat}{a:Act}{w:AR}(hm:P.follows .mixedOrders=true)
  (h:Pg F P ops Q ops.size (Array.replicate ops.size false) a {w with drawn:=w.drawn+1}):(Code.region id ops true).wpIn F 0 P Q a w:=
 wpIn_region_draw λt=>by simp[Region.schedule,hm,ZG,if_true];exact af3 ops.size t _ a _ h
end
section
variable[D:DR]
variable{P:Program}{N:Nat}{ops:Array Oper}{Γ An:Ctx}
variable{listed:B8 Bool}{i:Nat}{av:A3 (A3 Nat)}{Q:Exit->Act->AR->Prop}{k:Nat}{S:A3 Ctx}{a:Act}{w:AR}{c:Ctx}{Dq:A3 (A3 Nat)}{Dp:A3 Bool}{kl:A3 (A3<|Nat×A3 Nat)}{L:A3 Nat}{Fy:Ctx}{ts:A3 Nat}{w0:Aj P}{H0:HV}
def De(listed:B8 Bool)(i:Nat):Prop:=listed.getD i false=true
def aa9(h:i<listed.size):listed.getD i true=listed.getD i false:=by simp[h]
def Ve(hs:listed.size=ops.size):i∈Region.ready .any ops listed↔∃o,ops[i]? =some o/\ ¬De listed i/\∀e∈SE o,De listed e.on:=by
 simp only[Region.ready,JE,Qa];constructor
 .rintro⟨hi,h⟩;have hi':i<listed.size:=hs▸hi;rw[aa9 hi'] at h;simp[C4,G5] at h;let⟨h1,h2⟩:=h;refine⟨ops[i],by simp[hi],by simp[De];simpa using h1,?_⟩;simp only[hi,getElem?_pos,Pb,ZS] at h2;intro e he;have:=Array.all_eq_true'.1 h2 e (by simpa using(JE.1 he).1);have hb:=(JE.1 he).2;simp[hb] at this;simpa[De] using this
 .rintro⟨o,ho,hl,he⟩;have hi:i<ops.size:=(SK.1 ho).1;have hi':i<listed.size:=hs▸hi;refine⟨hi,?_⟩;rw[aa9 hi'];simp only[C4,G5,ho,Pb,ZS];refine⟨by simpa[De] using hl,?_⟩;rw[Array.all_eq_true'];intro e hm;by_cases hb:Region.binds .any e=true
  .have:=he e (JE.2 ⟨by simpa using hm,hb⟩);simp[De] at this;simp[this]
  .simp at hb;simp[hb]
def Qf{j:Nat}(hi:i<listed.size):De (listed.setIfInBounds i true) j↔(j=i\/De listed j):=by
 simp[De,UD];by_cases e:i=j
 .subst e;simp[hi]
 .rw[Array.getElem?_setIfInBounds_ne e];constructor
  .exact λh=> .inr h
  .rintro(h|h)
   .exact absurd h.symm e
   .exact h
def unl(listed:B8 Bool):Nat:=listed.toList.count false
def zM(hi:i<listed.size)(hn: ¬De listed i):unl (listed.setIfInBounds i true)+1=unl listed:=by
 have hf:listed.toList[i]'(by simpa using hi)=false:=by simp[De,hi] at hn;simpa using hn
 have hpos:0<listed.toList.count false:=List.count_pos_iff.2 (by rw[<-hf];exact Lv _);simp only[unl,iY];rw[List.count_set (by simpa using hi),hf];simp only[beq_self_eq_true,if_true];have:(true==false)=false:=rfl;rw[this];simp only[U7,if_false];omega
def xp(h:unl listed=0)(hi:i<listed.size):De listed i:=by
 have:=List.count_eq_zero.1 h;have hm:listed[i]∈listed.toList:=by simp
 simp[De,hi,UD,getElem?_pos,ZS];cases hb:listed[i]
 .rw[hb] at hm;exact absurd hm this
 .rfl
theorem aaI(Kx:Np ops av=true){o:Oper}(ho:ops[i]? =some o){e:Edge}(he:e∈SE o):e.on<i:=by grind [Np,SE]
def kd{n m:Nat}: ¬De (Array.replicate n false) m:=by simp[De,UD,Array.getElem?_replicate];split<;>simp
def vt(Kx:Np ops av=true)(hs:listed.size=ops.size)(hi:i<ops.size)(hn: ¬De listed i):Region.ready .any ops listed≠[]:=by
 have key:∀m,∀i,i<=m->i<ops.size-> ¬De listed i->∃j,j∈Region.ready .any ops listed:=by
  intro m
  induction m with
  |zero=>
   intro i him hi hn;have:i=0:=by omega
   subst this;refine⟨0,(Ve hs).2 ⟨ops[0],by simp[hi],hn,?_⟩⟩;intro e he;have:=aaI Kx (i:=0) (o:=ops[0]) (by simp[hi]) he;omega
  |succ m ih=>
   intro i him hi hn;by_cases hall:∀e∈SE ops[i],De listed e.on
   .exact⟨i,(Ve hs).2 ⟨ops[i],by simp[hi],hn,hall⟩⟩
   .have⟨e,he,hne⟩:∃e,e∈SE ops[i]/\ ¬De listed e.on:=by apply Co;intro hc;exact hall λe he=>Co λh=>hc ⟨e,he,h⟩
    have:=aaI Kx (i:=i) (o:=ops[i]) (by simp[hi]) he;exact ih e.on (by omega) (by omega) hne
 let⟨j,hj⟩:=key i i (BK _) hi hn;intro e;rw[e] at hj;cases hj
def o6(Kx:Np ops av=true)(hs:listed.size=ops.size)(hc:∀m,De listed m->∀j∈av.getD m [],De listed j)(hi:i∈Region.ready .any ops listed):∀j∈av.getD i [],De listed j:=by
 let⟨o,ho,hn,he⟩:=(Ve hs).1 hi;have hlt:=(SK.1 ho).1;have:=Dj.1 Kx i (by simp[hlt]);simp only[ho,C4,Dj,iF] at this;intro j hj;let⟨e,he',hx⟩:=this.2 j hj;simp[Qb,QU,UA] at hx;rcases hx with hx|hx
 .exact hx▸he e he'
 .exact hc e.on (he e he') j hx
def alY{rd:AA Nat}{o:Oper}{K:Act->AR->Prop}(ho:ops[i]? =some o)(IV:∀c,o.op≠ .defer c)
 (h:if Region.wanted o (yielded ops a.tmps) then o.wp P a w K Q else K (a.put o.dst undef) w):Qp (Fb rd) P ops Q i K a w:=by
 unfold Qp;simp[ho];split
 .rename_i hw;rw[if_pos hw] at h;exact Z5 IV h
 .rename_i hw;rw[if_neg hw] at h;exact⟨λ_ _=>trivial,h⟩
def aiF{F:Fence}(hq:Q .normal a w)(fuel:Nat)(listed:B8 Bool)(hsz:listed.size=ops.size)(hL:∀j,j<ops.size->De listed j):Pg F P ops Q fuel listed a w:=by
 have hr:Region.ready .any ops listed=[]:=by apply List.eq_nil_iff_forall_not_mem.2;intro i hi;let⟨o,ho,hn,_⟩:=(Ve hsz).1 hi;exact hn<|hL i (SK.1 ho).1
 cases fuel with|zero=>exact⟨hr,hq⟩|succ f=>exact⟨λ_=>hq,λi hi=>by rw[hr] at hi;cases hi⟩
def agu{F:Fence}(Kx:Np ops av=true)(KP:Qg ops k av=true):∀(l:A3 Oper)
  (i fuel:Nat) (listed:B8 Bool) (a:Act) (w:AR),l=ops.toList.drop i->k<=i->i<=ops.size->listed.size=ops.size->(∀j,j<ops.size->(De listed j↔j<i))->(∀m,De listed m->∀j∈av.getD m [],De listed j)->unl listed<=fuel->wpListIn F 0 P ops Q l a w->Pg F P ops Q fuel listed a w:=by
 intro l
 induction l with
 |nil=>
  intro i fuel listed a w hl hki hi hsz hL hc hu hw;have:ops.size<=i:=by simpa using List.drop_eq_nil_iff.1 hl.symm
  exact aiF hw fuel listed hsz (λj hj=>(hL j hj).2 (by omega))
 |cons o l ih=>
  intro i fuel listed a w hl hki hi hsz hL hc hu hw;have Sr:i<ops.size:=by apply Co;intro Lb;rw[List.drop_eq_nil_of_le (by simp<;>omega)] at hl;cases hl
  have hnl: ¬De listed i:=λh=>by have:=(hL i Sr).1 h;omega
  have ho:ops[i]? =some o:=by
   have:(ops.toList.drop i)[0]? =some o:=by rw[<-hl];rfl
   simpa using this
  have hl':l=ops.toList.drop (i+1):=by have:=congrArg List.tail hl;simpa using this
  have hne:=vt Kx hsz Sr hnl;have only:∀j∈Region.ready .any ops listed,j=i:=by
   intro j hj;let⟨o',Jw,hn,_⟩:=(Ve hsz).1 hj;have acT:=(SK.1 Jw).1;have hji:i<=j:=by apply Co;intro hlt;exact hn ((hL j acT).2 (by omega))
   have au1:=o6 Kx hsz hc hj;simp[Qg,C4,Dj,Qa,Qb,WD,UA] at KP;rcases KP.2 j acT with hx|hx
   .omega
   .apply Co;intro hne;have:=(hL i Sr).1 (au1 i (hx i (by omega)));omega
  cases fuel with
  |zero=>exact absurd (xp (by omega)<|hsz▸Sr) hnl
  |succ f=>
   refine⟨λe=>absurd e hne,λj hj=>?_⟩;have hji:=only j hj;subst hji;have IM:j<listed.size:=hsz▸Sr;have next:∀a' w',wpListIn F 0 P ops Q l a' w'->Pg F P ops Q f (listed.setIfInBounds j true) a' w':=by
    intro a' w' hw';refine ih (j+1) f _ a' w' hl' (by omega) (by omega) (by simp[hsz]) ?_ ?_ ?_ hw'
    .intro m hm;rw[Qf IM,hL m hm];omega
    .intro m hm x hx;rw[Qf IM] at hm⊢;rcases hm with hm|hm
     .subst hm;exact .inr<|o6 Kx hsz hc hj x hx
     .exact .inr<|hc m hm x hx
    .have:=zM IM hnl;omega
   unfold wpListIn at hw;unfold Qp;simp[ho];split
   .rename_i hwt;rw[if_pos hwt] at hw;exact uj next hw
   .rename_i hwt;rw[if_neg hwt] at hw;exact⟨hw.1,next _ _ hw.2⟩
def other(listed:B8 Bool)(S:A3 Ctx)(k lo:Nat)(t:Nat):Bool:=(List.range k).all λj=> !(decide (lo<=j)&&listed.getD j false)||(S.getD j []).all λq=>q.1 !=t
def Uc(listed:B8 Bool)(S:A3 Ctx)(k:Nat)(Γ:Ctx):Ctx:=
 ((List.range k).flatMap λj=>if listed.getD j false=true then(S.getD j []).filter (λq=>other listed S k (j+1) q.1) else [])++Γ.filter λq=>other listed S k 0 q.1
theorem fF{lo t:Nat}:other listed S k lo t=true↔∀j c,lo<=j->j<k->De listed j->S[j]? =some c->∀q∈c,q.1≠t:=by grind [other,De]
def Ti{Γ:Ctx}{q:Nat×AQ}:q∈Uc listed S k Γ↔(∃j c,j<k/\De listed j/\S[j]? =some c/\q∈c/\∀j' c',j<j'->j'<k->De listed j'->S[j']? =some c'->∀q'∈c',q'.1≠q.1)\/(q∈Γ/\∀j c',j<k->De listed j->S[j]? =some c'->∀q'∈c',q'.1≠q.1):=by
 simp only[Uc,C3,MQ,Qa,JE];constructor
 .rintro(⟨j,hj,h⟩|⟨h1,h2⟩)
  .left;split at h
   .rename_i hl;let⟨h1,h2⟩:=JE.1 h;rw[fF] at h2;cases hc:S[j]? with
    |none=>rw[JH,hc] at h1;cases h1
    |some c=>rw[JH,hc] at h1;exact⟨j,c,hj,hl,hc,h1,λj' c' h3 h4 h5 h6=>h2 j' c' h3 h4 h5 h6⟩
   .cases h
  .right;rw[fF] at h2;exact⟨h1,λj c' h3 h4 h5=>h2 j c' (FQ _) h3 h4 h5⟩
 .rintro(⟨j,c,hj,hl,hc,hq,hm⟩|⟨h1,h2⟩)
  .left;refine⟨j,hj,?_⟩;have hl':listed.getD j false=true:=hl;rw[if_pos hl'];exact JE.2 ⟨by rw[JH,hc];exact hq,fF.2 λj' c' h3 h4 h5 h6=>hm j' c' h3 h4 h5 h6⟩
  .exact .inr ⟨h1,fF.2 λj c' _ h3 h4 h5=>h2 j c' h3 h4 h5⟩
def Kk(c:Ctx):A3 (Nat×A3 Nat):=c.map λp=>(p.1,p.2.C8)
def yf{p:Nat×AQ}(h:p∈c):(p.1,p.2.C8)∈Kk c:=BU.2 ⟨p,h,rfl⟩
theorem Vp{p:Nat×AQ}{l:A3 Nat}(h:p∈c)(hl:p.1∈l):meets (Kk c) l=true:=by(simp_all [meets,Kk]<;>grind)
theorem xV{t:Nat}(h:meets (Kk c) [t]=true):t∈c.map (·.1):=by grind [meets,Kk]
def aoR{m:Nat}(h:De listed m):m<listed.size:=by apply Co;intro Lb;simp[De,UD,iS<|po Lb] at h
def agh{Γ:Ctx}(Aw:Jn (ops.toList.take k)=true)(Kx:Np ops av=true)(IV:St k kl Dq Dp L av=true)(hkn:k<=ops.size)(Ue:∀i,k<=i->i<ops.size->∀j,j<k->j∈av.getD i [])
 (Jy:S.reverse.map Kk=kl)(hL:OQ Γ=L)
 (hp:Er P N ops Γ [] (ops.toList.take k) Dq Dp S)(Kl:ES (S.flatten++Γ) ts Fy)
 (KU:∀(fuel:Nat) (listed:B8 Bool) (a:Act) (w:AR) (H:HV),listed.size=ops.size->(∀j,j<ops.size->(De listed j↔j<k))->(∀m,De listed m->∀j∈av.getD m [],De listed j)->unl listed<=fuel->Sat w0 H0 N Fy a w H->Pg (Fb w0.rd) P ops Q fuel listed a w):∀(fuel:Nat) (listed:B8 Bool) (a:Act) (w:AR) (H:HV),listed.size=ops.size->(∀m,De listed m->∀j∈av.getD m [],De listed j)->(∀i,k<=i->i<ops.size-> ¬De listed i)->unl listed<=fuel->Sat w0 H0 N (Uc listed S.reverse k Γ) a w H->Pg (Fb w0.rd) P ops Q fuel listed a w:=by
 let⟨⟨S',hS',hlen⟩,hnl,KR,hat⟩:=hp.at_;have hSl:S.length=k:=by rw[hS'];simp[hlen,hkn]
 have aoW:Dq.length=k:=by rw[hnl];simp[hkn]
 have aqX:Dp.length=k:=by rw[KR];simp[hkn]
 have key:∀j c,S.reverse[j]? =some c->kl.getD j []=Kk c:=by
  intro j c h;rw[<-Jy,JH,Gy,h]
  rfl
 simp only[St,C4] at IV;let⟨hc1,H8⟩:=IV;have sV:∀i j (ci cj:Ctx),i<j->j<k->S.reverse[i]? =some ci->S.reverse[j]? =some cj->((∃p∈ci,p.1∈Dq.getD j [])\/(∃p∈ci,∃q∈cj,p.1=q.1)\/(∃p∈cj,p.1∈Dq.getD i []))->i∈av.getD j []:=by
  intro i j ci cj KT hj h1 h2 h3;simp only[Dj,Qa,Qb,G5,UA] at hc1;rcases hc1 j hj i KT with h|h
  .rw[key i ci h1,key j cj h2] at h;simp only[MS] at h;exfalso;rcases h3 with⟨p,hp,h3⟩|⟨p,hp,q,hq,h3⟩|⟨p,hp,h3⟩
   .have:=Vp hp h3;rw[h.1.1] at this;cases this
   .have:=Vp (l:=(Kk cj).map (·.1)) hp (by rw[h3];exact BU.2 ⟨_,yf hq,rfl⟩);rw[h.1.2] at this;cases this
   .have:=Vp hp h3;rw[h.2] at this;cases this
  .exact h
 have lean:∀j (cj:Ctx),j<k->Dp.getD j true=true->S.reverse[j]? =some cj->∀p∈cj.take 1,(p.1∉L)/\∀i (ci:Ctx),i<k->S.reverse[i]? =some ci->∀q∈ci,p.1∈q.2.C8->(i≠j/\(q.1∈cj.map (·.1)\/j∈av.getD i []\/∃m,m∈av.getD j []/\i<m/\meets (kl.getD m []) [q.1]=true))\/(i=j/\∀p'∈cj.take 1,p'.1≠q.1):=by
  intro j cj hj hpj h1 p hp;have tk:(Kk cj).take 1=Kk (cj.take 1):=by simp[Kk,qC]
  simp only[Dj,Qa,Qb,G5,C4] at H8;rcases H8 j hj with h|⟨h2,h3⟩
  .rw[hpj] at h;cases h
  .rw[key j cj h1,tk] at h2;refine⟨(λhm=>by have:=Vp hp hm;rw[h2] at this;cases this),λi ci hi h4 q hq h5=>?_⟩;have h6:=h3 i hi (q.1,q.2.C8) (by rw[key i ci h4];exact yf hq);have h6:=h6 p.1 h5;simp only[Qb,G5,C4,MI,ne_eq,UA] at h6;rcases h6 with(h6|⟨h6,(h7|h7)|h7⟩)|⟨h6,h7⟩
   .have:=Vp (l:=[p.1]) hp (by simp);rw[key j cj h1,tk] at h6;rw[h6] at this;cases this
   .refine .inl ⟨h6,.inl ?_⟩;rw[key j cj h1] at h7;exact xV h7
   .exact .inl ⟨h6,.inr<| .inl h7⟩
   .let⟨m,hm,h8⟩:=iF.1 h7;simp[C4,WD] at h8;exact .inl ⟨h6,.inr<| .inr ⟨m,hm,h8.1,h8.2⟩⟩
   .refine .inr ⟨by simpa using h6,λp' hp' e=>?_⟩;rw[key j cj h1,tk] at h7;have:=Vp (l:=[q.1]) hp' (by simp[e]);rw[h7] at this;cases this
 have pure:∀i o,i<k->ops[i]? =some o->∃c,S.reverse[i]? =some c/\abQ P N ops Γ (Dq.getD i []) (Dp.getD i true) S.reverse i o c:=by
  intro i o hi ho;have e1:Dq[i]? =some (Dq.getD i []):=by simp[JH,aoW,hi]
  have e2:Dp[i]? =some (Dp.getD i true):=by simp[JH,aqX,hi]
  let⟨p,h1,h2⟩:=hat i o _ _ (by rw[List.getElem?_take_of_lt hi];simpa using ho) e1 e2;exact⟨p,by simpa using h1,by simpa using h2⟩
 have toTail:∀(fuel:Nat) (listed:B8 Bool) (a:Act) (w:AR) (H:HV),listed.size=ops.size->(∀m,De listed m->∀j∈av.getD m [],De listed j)->(∀i,k<=i->i<ops.size-> ¬De listed i)->unl listed<=fuel->(∀j,j<k->De listed j)->Sat w0 H0 N (Uc listed S.reverse k Γ) a w H->Pg (Fb w0.rd) P ops Q fuel listed a w:=by
  intro fuel listed a w H hsz hc Jy hu hall BD;refine KU fuel listed a w H hsz ?_ hc hu<|BD.weaken ?_
  .intro j hj;constructor
   .intro h;apply Co;intro Lb;exact Jy j (by omega) hj h
   .exact hall j
  .intro q hq;have hat:=nR (S:=S.reverse) (λj _=>rfl)<|Kl.looks q hq
   rw[hSl] at hat;rw[Ti];rcases hat with⟨j,c,hj,h1,h1',h2⟩|⟨h1,h2⟩
   .exact .inl ⟨j,c,hj,hall j hj,h1,h1',λj' q' h3 h4 _ h5=>h2 j' q' h3 h4 h5⟩
   .exact .inr ⟨h1,λj q' h3 _ h5=>h2 j q' h3 h5⟩
 intro fuel
 induction fuel with
 |zero=>intro listed a w H hsz hc Jy hu BD;exact toTail 0 listed a w H hsz hc Jy hu (λj hj=>xp (by omega) (by omega)) BD
 |succ f ih=>
  intro listed a w H hsz hc Jy hu BD;by_cases hall:∀j,j<k->De listed j
  .exact toTail (f+1) listed a w H hsz hc Jy hu hall BD
  .have⟨j0,hj0,hn0⟩:∃j,j<k/\ ¬De listed j:=by apply Co;intro aty;exact hall λj hj=>Co λh=>aty ⟨j,hj,h⟩
   refine⟨λe=>absurd e (vt Kx hsz (by omega) hn0),λi hi=>?_⟩;let⟨o,ho,hni,_⟩:=(Ve hsz).1 hi;have Sr:=(SK.1 ho).1;have hil:i<listed.size:=hsz▸Sr;have kF:=o6 Kx hsz hc hi;by_cases hik:i<k
   .let⟨c,hp1,hp2⟩:=pure i o hik ho;let⟨Ai,hex,BC⟩:=hp2.exec;have hin:∀q∈Ai,q∈Uc listed S.reverse k Γ:=by
     intro q hq;let⟨hm,hx⟩:=BC q hq;have up:∀j' c',i<=j'->j'<k->De listed j'->S.reverse[j']? =some c'->∀q'∈c',q'.1≠q.1:=by
      intro j' c' h3 h4 h5 h6 q' hq' e;rcases Nat.lt_or_eq_of_le h3 with h3|h3
      .have:=sV i j' c c' h3 h4 hp1 h6 (.inr<| .inr ⟨q',hq',e▸hm⟩);exact hni<|hc j' h5 i this
      .subst h3;exact hni h5
     refine Ti.2 ?_;rcases hx with⟨j,cj,hj,hqj,hqc,N9⟩|⟨hx,N9⟩
     .refine .inl ⟨j,cj,by omega,kF j<|sV j i cj c hj hik hqj hp1<| .inl ⟨q,hqc,hm⟩,hqj,hqc,λj' c' h3 h4 h5 h6=>?_⟩;rcases Hj j' i with h7|h7
      .exact N9 j' c' h3 h7 h6
      .exact up j' c' h7 h4 h5 h6
     .refine .inr ⟨hx,λj' c' h4 h5 h6=>?_⟩;rcases Hj j' i with h7|h7
      .exact N9 j' c' h7 h6
      .exact up j' c' h7 h4 h5 h6
    have KA:Dp.getD i true=true->∀q∈Uc listed S.reverse k Γ,q.1∉c.map (·.1)->∀p∈c.take 1,p.1∉q.2.C8:=by
     intro hpt q hq hnk p hp e;let⟨l1,l2⟩:=lean i c hik hpt hp1 p hp;rcases Ti.1 hq with⟨j,cj,hj,hlj,hqj,hqc,N9⟩|⟨hq,_⟩
     .rcases(l2 j cj hj hqj q hqc e).resolve_right (λh=>by obtain⟨rfl,_⟩:=h;exact hni hlj)|>.2 with h|h
      .exact hnk h
      .rcases h with h|⟨m,hm,him,hme⟩
       .exact hni<|hc j hlj i h
       .have hlm:=kF m hm;have hmk:m<k:=by apply Co;intro Lb;exact Jy m (by omega) (hsz▸aoR hlm) hlm
        let⟨cm,hcm,_⟩:=pure m ops[m] hmk (by simp<;>omega);rw[key m cm hcm] at hme;let⟨y,hy1,hy2⟩:=BU.1<|xV hme
        exact N9 m cm (by omega) hmk hlm hcm y hy1 hy2
     .exact l1<|hL▸o8 hq e
    have aW:Dp.getD i true=true->∀q∈c.take 1,∀p∈c.take 1,p.1∉q.2.C8:=by
     intro hpt q hq p hp e;rcases(lean i c hik hpt hp1 p hp).2 i c hik hp1 q (Qe hq) e with h|h
     .exact h.1 rfl
     .exact h.2 q hq rfl
    let⟨Γn,Es,jQ⟩:=hex _ hin KA aW;refine alY ho (nF Aw (LM (i:=i) (by rw[List.getElem?_take_of_lt hik];simpa using ho)))<|Es w0 H0 a w H BD _ Q λa' w' H' KQ=>?_
    refine ih _ _ w' H' (by simp[hsz]) ?_ ?_ ?_<|KQ.weaken ?_
    .intro m hm x hx;rw[Qf hil] at hm⊢;rcases hm with hm|hm
     .subst hm;exact .inr<|kF x hx
     .exact .inr<|hc m hm x hx
    .intro m hm1 hm2;rw[Qf hil];rintro(h|h)
     .omega
     .exact Jy m hm1 hm2 h
    .have:=zM hil hni;omega
    .intro q hq;refine jQ q ?_;rcases Ti.1 hq with⟨j,cj,hj,hlj,hqj,hqc,N9⟩|⟨hq,N9⟩
     .by_cases hji:j=i
      .subst hji;rw[hp1] at hqj;cases hqj;exact IB _ hqc
      .have acQ:De listed j:=by
        rw[Qf hil] at hlj;rcases hlj with h|h
        .exact absurd h hji
        .exact h
       refine SB _ (Yo.2 ⟨Ti.2 (.inl ⟨j,cj,hj,acQ,hqj,hqc,λj' q' h3 h4 h5 h6=>N9 j' q' h3 h4 (by rw[Qf hil];exact .inr h5) h6⟩),λe=>?_⟩);let⟨p,hp,e⟩:=BU.1 e;rcases Hj i j with h7|h7
       .exact hni<|hc j acQ i<|sV i j c cj h7 hj hp1 hqj<| .inr<| .inl ⟨p,hp,q,hqc,e⟩
       .exact N9 i c (by omega) hik (by rw[Qf hil];exact .inl rfl) hp1 p hp e
     .refine SB _ (Yo.2 ⟨Ti.2 (.inr ⟨hq,λj q' h4 h5 h6=>N9 j q' h4 (by rw[Qf hil];exact .inr h5) h6⟩),λe=>?_⟩);let⟨p,hp,e⟩:=BU.1 e;exact N9 i c hik (by rw[Qf hil];exact .inl rfl) hp1 p hp e
   .exfalso;exact hn0 (kF j0 (Ue i (by omega) Sr j0 hj0))
def ahX{Γ:Ctx}(Aw:Jn (ops.toList.take k)=true)(Kx:Np ops av=true)(IV:St k kl Dq Dp L av=true)(KP:Qg ops k av=true)
 (Jy:S.reverse.map Kk=kl)(hL:OQ Γ=L)
 (hp:Er P N ops Γ [] (ops.toList.take k) Dq Dp S)(Kl:ES (S.flatten++Γ) ts Fy)
 (KU:∀a w H,Sat w0 H0 N Fy a w H->wpListIn (Fb w0.rd) 0 P ops Q (ops.toList.drop k) a w):∀(fuel:Nat) (listed:B8 Bool) (a:Act) (w:AR) (H:HV),listed.size=ops.size->(∀m,De listed m->∀j∈av.getD m [],De listed j)->(∀i,k<=i->i<ops.size-> ¬De listed i)->unl listed<=fuel->Sat w0 H0 N (Uc listed S.reverse k Γ) a w H->Pg (Fb w0.rd) P ops Q fuel listed a w:=by
 have rr:=KP;simp[Qg,C4,Dj,Qa,Qb,WD,UA] at rr;have hkn:k<=ops.size:=rr.1;refine agh Aw Kx IV hkn (λi hi hn j hj=>?_) Jy hL hp Kl λfuel listed a w H hsz hl hc hu hs=>agu Kx KP _ k fuel listed a w rfl (BK _) hkn hsz hl hc hu<|KU a w H hs
 rcases rr.2 i hn with h|h
 .omega
 .exact h j (by omega)
def zF{Γ:Ctx}{id:Nat}(hm:P.follows .mixedOrders=true)(Aw:Jn (ops.toList.take k)=true)(Kx:Np ops av=true)(IV:St k kl Dq Dp L av=true)(KP:Qg ops k av=true)
 (Jy:S.reverse.map Kk=kl)(hL:OQ Γ=L)
 (hp:Er P N ops Γ [] (ops.toList.take k) Dq Dp S)(Kl:ES (S.flatten++Γ) ts Fy)
 (KU:∀a w H,Sat w0 H0 N Fy a w H->wpListIn (Fb w0.rd) 0 P ops Q (ops.toList.drop k) a w)
 {H:HV}(hs:Sat w0 H0 N Γ a w H):(Code.region id ops true).wpIn (Fb w0.rd) 0 P Q a w:=by
 refine adX hm (ahX Aw Kx IV KP Jy hL hp Kl KU ops.size _ a _ H (by simp) ?_ ?_ ?_ ?_)
 .intro m h;exact absurd h kd
 .intro i _ hi h;exact absurd h kd
 .simp[unl]
 .have he:Ext w H {w with drawn:=w.drawn+1} H:=⟨⟨⟨rfl,rfl,rfl,BK _,λ_ _=>rfl⟩,Gv.of<|QW _⟩,HV.le.refl _,λ_ _=>rfl,hs.sub⟩;refine(fQ hs he).weaken λq hq=>?_
  rcases Ti.1 hq with⟨j,_,_,hl,_⟩|⟨hq,_⟩
  .exact absurd hl kd
  .exact hq
end
section
variable[D:DR]
def Goal(P:CF)(w0:Aj P)(H0:HV)(N:Nat)(c:Code)(Q:Exit->Act->AR->Prop)(Γ:Ctx):Prop:=∀a w H,Sat w0 H0 N Γ a w H->c.wpIn (Fb w0.rd) 0 P Q a w
def EJ{P:CF}(w0:Aj P)(H0:HV)(N:Nat)(K:Act->AR->Prop)(Γ:Ctx):Prop:=∀a w H,Sat w0 H0 N Γ a w H->K a w
end
section
variable[D:DR]
variable{P:Program}{w0:Aj P}{H0:HV}{N:Nat}{Q:Exit->Act->World->Prop}{Γ An:Ctx}
variable{w:AR}{ρ:Type}{a:Act}{fn:Func}{c:Code}{r:ρ}{H:HV}{id:Nat}{ts:A3 Nat}{n:Nat}{α:Type}{rs:A3 ResultVar}{x:Code}{t:Nat}{b:Bool}{K:α->AA ρ}{args:A3 Ty}{E:Am}{sz:Nat}{l:A3 Ty}
def A9{y:Code}(h:Goal P w0 H0 N x (Exit.then (y.wpIn (Fb w0.rd) 0 P Q) Q) Γ):Goal P w0 H0 N (.seq x y) Q Γ:=λa w H hs=>wpIn_seq<|h a w H hs
def ym{l:A3 Oper}(Aw:Jn l=true)(h:JN P w0 N l.toArray l Γ An)(k:EJ w0 H0 N (Q .normal) An):Goal P w0 H0 N (.region id l.toArray false) Q Γ:=λa w H hs=>wpIn_region_lit<|h.sound Aw H0 a w H hs Q k
def aoe{ops:B8 Oper}{k:Nat}{S:A3 Ctx}{Fy:Ctx}(Aw:Jn ops.toList=true)(kl:A3 (A3<|Nat×A3 Nat))(L:A3 Nat)(av Dq:A3 (A3 Nat))(Dp:A3 Bool)(hm:P.follows .mixedOrders=true)(hc:(Np ops av&&St k kl Dq Dp L av&&Qg ops k av)=true)
 (hp:Er P N ops Γ [] (ops.toList.take k) Dq Dp S)(Jy:S.reverse.map Kk=kl)(hL:OQ Γ=L)(Kl:ES (S.flatten++Γ) ts Fy)(KU:JN P w0 N ops (ops.toList.drop k) Fy An)(kk:EJ w0 H0 N (Q .normal) An):Goal P w0 H0 N (.region id ops true) Q Γ:=by
 simp[C4] at hc;have h1:Jn (ops.toList.take k)=true:=Dj.2 λo ho=>Dj.1 Aw o<|Qe ho
 have h2:Jn (ops.toList.drop k)=true:=Dj.2 λo ho=>Dj.1 Aw o<|U8 ho
 exact λa w H hs=>zF hm h1 hc.1.1 hc.1.2 hc.2 Jy hL hp Kl (H0:=H0) (λa w H hs=>KU.sound h2 H0 a w H hs Q kk) hs
def AG(k:EJ w0 H0 N (Q .normal) Γ):Goal P w0 H0 N .skip Q Γ:=λa w H hs=>wpIn_skip<|k a w H hs
def AF(k:EJ w0 H0 N (Q .ret) Γ):Goal P w0 H0 N .ret Q Γ:=λa w H hs=>wpIn_ret<|k a w H hs
def Ao(k:EJ w0 H0 N (Q<| .exit id) Γ):Goal P w0 H0 N (.exit id) Q Γ:=λa w H hs=>wpIn_exit<|k a w H hs
def AJ(h:Goal P w0 H0 N c (Exit.inBlock id Q) Γ):Goal P w0 H0 N (.block id c) Q Γ:=λa w H hs=>wpIn_block<|h a w H hs
def UQ{y:Code}(hl:look Γ t=some (.val<|Av b))(hx:b=true->Goal P w0 H0 N x Q Γ)(hy:b=false->Goal P w0 H0 N y Q Γ):Goal P w0 H0 N (.cond (.tmp t) x y) Q Γ:=by
 intro a w H hs;have hv:Ae a t= .bool b:=hs.holds _<|B6 hl
 exact wpIn_cond_split (t:=b) hv (λh=>hx h a w H hs)<|λh=>hy h a w H hs
def OG(h:ES Γ ts An)(k:Goal P w0 H0 N c Q An):Goal P w0 H0 N c Q Γ:=λa w H hs=>k a w H<|hs.weaken h.sub
def wp_loop_ghost{F:Fence}{ι:Type}(I:ι->Act->AR->Prop)(μ:ι->Nat)(i0:ι)(at1:I i0 a w)
 (round:∀i x y,I i x y->c.wpIn F n P (Exit.then (λa' w'=>∃j,I j a' w'/\μ j<μ i) Q) x y):(Code.loop c).wpIn F n P Q a w:=by
 intro b k cs hro hb hr;have key:∀n i a w,μ i=n->I i a w->∃e a' w',Q e a' w'/\ArrivesIn (Machine.fenced P F) P (lone (b.atR a (.code c:: .inLoop c::k)) cs w) b k cs e a' w':=by
  intro n
  induction n using Nat.strongRecOn with
  |_ n ih=>
   intro i a w hn hI;let⟨e,a1,w1,hq,Ss⟩:=round i a w hI b (.inLoop c::k) cs hro hb hr;cases e with
   |normal=>let⟨j,hj,hlt⟩:=hq;let⟨e2,a2,w2,hq2,ar8⟩:=ih (μ j) (hn▸hlt) j a1 w1 rfl hj;exact⟨e2,a2,w2,hq2,.of_steps (StepsIn.trans Ss<| .one (fenced_calm hb hr rfl) stepR_inLoop) ar8⟩
   |exit id=>exact⟨_,a1,w1,hq,.pass (x:= .inLoop c) rfl (λ_ _=> .inl (by simp)) Ss⟩|goto l=>exact⟨_,a1,w1,hq,.pass (x:= .inLoop c) rfl (λ_ _=> .inl (by simp)) Ss⟩|ret=>exact⟨_,a1,w1,hq,.pass (x:= .inLoop c) rfl (λ_ _=> .inl (by simp)) Ss⟩|panic ch=>exact⟨_,a1,w1,hq,.pass (x:= .inLoop c) rfl (λ_ _=> .inl (by simp)) Ss⟩|outgrown=>exact⟨_,a1,w1,hq,.pass (x:= .inLoop c) rfl (λ_ _=> .inl (by simp)) Ss⟩
 let⟨e,a',w',hq,Ss⟩:=key _ i0 a w rfl at1;exact⟨e,a',w',hq,.of_steps (.one (fenced_calm hb hr rfl) stepR_loop) Ss⟩
theorem OS(h:II w0 N Γ An)(k:Goal P w0 H0 N c Q An):Goal P w0 H0 N c Q Γ:=by grind [II,Goal]
theorem EN{K:Act->AR->Prop}(h:II w0 N Γ An)(k:EJ w0 H0 N K An):EJ w0 H0 N K Γ:=by grind [II,EJ]
def bd{α ρ:Type}(e:AA α)(K:α->AA ρ):AA ρ:=match e with|none=>none|some x=>K x
def gC{ρ:Type}(c:Bool)(K:AA ρ):AA ρ:=match c with|true=>K|false=>none
def B1{α ρ:Type}(g:Bool)(d:α)(e:AA α)(K:α->AA ρ):AA ρ:=match g with|true=>bd e K|false=>K d
def jn{α ρ:Type}(K:α->AA ρ)(E:(α->AA ρ)->AA ρ):AA ρ:=E K
def lp{σ ρ:Type}:Nat->((σ->AA ρ)->σ->AA ρ)->σ->AA ρ
 |0,_,_=>none|n+1,B,s=>B (lp n B) s
theorem Ax{e:AA α}(h:bd e K=some r):∃x,e=some x/\K x=some r:=by(simp_all [bd]<;>grind)
def WM{c:Bool}{K:AA ρ}(h:gC c K=some r):c=true/\K=some r:=by
 cases c
 .cases h
 .exact⟨rfl,h⟩
def Lg{g:Bool}{d:α}{e:AA α}(h:B1 g d e K=some r):∃x,(g=true->e=some x)/\K x=some r:=by
 cases g
 .exact⟨d,(λe=>nomatch e),h⟩
 .let⟨x,h1,h2⟩:=Ax h;exact⟨x,λ_=>h1,h2⟩
def ap1{x y:AA ρ}{r:AA ρ}(h:cond b x y=r)(hb:b=true):x=r:=by subst hb;exact h
def ap2{x y:AA ρ}{r:AA ρ}(h:cond b x y=r)(hb:b=false):y=r:=by subst hb;exact h
def Mid{P:CF}{α ρ:Type}(w0:Aj P)(H0:HV)(N:Nat)(JT:α->Ctx)(k:α->AA ρ)(r:ρ)(a:Act)(w:AR):Prop:=∃i,k i=some r/\∃H,Sat w0 H0 N (JT i) a w H
def SM(JT:α->Ctx){E:(α->AA ρ)->AA ρ}(hm:jn K E=some r)
 (h:∀k,E k=some r->Goal P w0 H0 N x (Exit.then (Mid w0 H0 N JT k r) Q) Γ)(kk:∀i,K i=some r->EJ w0 H0 N (Q .normal) (JT i)):Goal P w0 H0 N x Q Γ:=
 λa w H hs=>Vx (h K hm a w H hs) λe a' w' q=>by cases e with|normal=>let⟨i,hi,H',DO⟩:=q;exact kk i hi a' w' H' DO|_=>exact q
def arH{JT:α->Ctx}{k:α->AA ρ}{i:α}(hm:k i=some r)(h:ES Γ ts (JT i)):EJ w0 H0 N (λa w=>Mid w0 H0 N JT k r a w) Γ:=λ_ _ H hs=>⟨i,hm,H,hs.weaken h.sub⟩
def abB{σ:Type}(Ai:σ->Ctx){B:(σ->AA ρ)->σ->AA ρ}{s0:σ}(hm:lp n B s0=some r)(h0:ES Γ ts (Ai s0))
 (round:∀(k:σ->AA ρ) (s:σ),B k s=some r->Goal P w0 H0 N c (Exit.then (Mid w0 H0 N Ai k r) Q) (Ai s)):Goal P w0 H0 N (.loop c) Q Γ:=by
 intro a w H hs;refine wp_loop_ghost (λ(i:Nat×σ) a w=>lp i.1 B i.2=some r/\∃H,Sat w0 H0 N (Ai i.2) a w H) (λi=>i.1) (n,s0) ⟨hm,H,hs.weaken h0.sub⟩ ?_;rintro⟨m,s⟩ a w ⟨hl,H,hs⟩;cases m with
 |zero=>cases hl
 |succ m=>
  refine Vx (round (lp m B) s hl a w H hs) λe a' w' q=>?_
  cases e with|normal=>let⟨i,hi,H',DO⟩:=q;exact⟨(m,i),⟨hi,H',DO⟩,Nat.lt_succ_self m⟩|_=>exact q
inductive Res where
 |vs(l:A3 Ty)|fr(E:Am)(sz:Nat)(l:A3 Ty)
def LQ(H:HV):A3 Ty->AV->Prop
 |[τ],v=>τ.ok H v|l,v=>∃vs,v= .tuple vs/\Ec H l vs.toList
def Res.holds(n:Nat)(w:AR)(H:HV)(v:AV):Res->Prop
 | .vs l=>LQ H l v| .fr E sz l=>∃xs,w.ownsRow 0 E sz v l.length xs/\DT H l xs/\∀b,v.ownBlock=some b->n<=b/\H b=none
def Gd(P:CF)(f:FuncId):Bool:=
 match P.funcs[f]? with|some fn=>fn.body.isSome&& !(fn.name== "runtime.NumGoroutine")|none=>false
def Returns(w:AR)(H:HV)(Bk:Res)(e:Ending)(w':AR):Prop:=∃v,e= .returned v/\FO w.heap.size w w'/\∃H',(∀r,r<w.heap.size->H' r=H r)/\(∀r o,H' r=some o->w'.heap[r]? =some o)/\Bk.holds w.heap.size w' H' v
structure Ef(P:CF)(f:FuncId)(args:A3 Ty)(Bk:Res):Prop where
 can:Gd P f=true
 run:∀(w:AR) (H:HV) (vs:A3 AV),(∀r o,H r=some o->w.heap[r]? =some o)->LP P H->Ec H args vs->Calls P f vs.toArray w (Returns w H Bk)
def Ef.arc{f:FuncId}{Bk:Res}(h: @Ef DR.strict P f args Bk):Ef P f args Bk:=⟨Ef.can (D:=DR.strict) h,λw H vs sub gl ha=>(Ef.run (D:=DR.strict) h w H vs sub gl ha).mono λe w' ⟨v,e1,hb,r⟩=>⟨v,e1,⟨FO.toBelow (D:=DR.strict) hb,Gv.of<|FO.drawn (D:=DR.strict) hb⟩,r⟩⟩
def HZ:Nat->A3 Ty->Ctx
 |_,[]=>[]|i,τ::l=>(i,.val τ)::HZ (i+1) l
def eL{H:HV}{B:Aj P}{a:Act}{w:AR}:∀{l:A3 Ty} {vs:A3 AV} (i:Nat),Ec H l vs->(∀j v,vs[j]? =some v->Ae a (i+j)=v)->∀p∈HZ i l,p.2.holds B a w H (Ae a p.1)
 |[],_,_,_,_,p,hp=>by simp[HZ] at hp
 |τ::l,_,i,⟨v,rest,e,hv,hr⟩,hg,p,hp=>by
  subst e;simp[HZ,Aq] at hp;rcases hp with e|hp
  .subst e;have:=hg 0 v rfl;simp[Tw] at this;rw[this];exact hv
  .exact eL (i+1) hr (λj v hj=>by have:=hg (j+1) v (by simpa using hj);rw[<-this];congr 1;omega) p hp
def nN{w:AR}{v:AV}{b:Nat}:∀{l:A3 Ty} {i:Nat},∀p∈HZ i l,¬p.2.owns w v b
 |[],_,p,hp=>by simp[HZ] at hp
 |τ::l,i,p,hp=>by
  simp[HZ,Aq] at hp;rcases hp with e|hp
  .subst e;exact λh=>h
  .exact nN p hp
theorem xf{vs:A3 AV}(sub:∀r o,H r=some o->w.heap[r]? =some o)(gl:LP P H)(Aw:Ec H args vs)(hn:args.length<=n):Sat (Aj.call P w) H n (HZ 0 args) {tmps:=vs.toArray++Array.replicate (n-vs.toArray.size) undef,defers:=[]} w H:=by
 have hl:=Rw Aw;refine⟨trivial,by simp;omega,⟨rfl,rfl,rfl,BK _,BK _,λ_ _ _ _=>rfl⟩,λ_ _ _ _=>rfl,sub,?_,?_,gl⟩
 .refine eL 0 Aw λj v hj=>?_
  have Jz:=(FH.1 hj).1;have e:(vs.toArray++Array.replicate (n-vs.toArray.size) undef)[0+j]? =some v:=by grind
  simp[Ae,UD];simp at e;rw[e];rfl
 .intro p hp q _ _ b hb;exact absurd hb<|nN p hp
inductive AZ(P:CF)(Γ:Ctx):A3 ResultVar->A3 Ty->Prop where
 |nil:AZ P Γ [] []|tmp {t:Nat} {τ Gk:Ty} {rs:A3 ResultVar} {l:A3 Ty} (h:look Γ t=some (.val τ)) (hi:τ=Gk) (r:AZ P Γ rs l):AZ P Γ (.tmp t::rs) (Gk::l)
 |cell {t T:Nat} {T':Am} {τ Gk:Ty} {rs:A3 ResultVar} {l:A3 Ty} (h:look Γ t=some (.own T' τ)) (hT:∀(w:AR) (b:Nat) (x:AV) (E:Am),w.heap[b]? =some (.cells x.cells E (0,0))->Shape τ.n τ.agg x->(loadVar T ⟨b,0,none⟩).run P w= .ok x w)
   (hi:τ=Gk) (r:AZ P Γ rs l):AZ P Γ (.cell t T::rs) (Gk::l)
def YU(tmps:B8 AV):ResultVar->Sem AV
 | .tmp t=>pure<|tmps.getD t undef| .cell a t=>do loadVar t (<-asAddr (tmps.getD a undef))
theorem WS{bl:A3 Ty}{H':HV}{B:Aj P}{v:AV}(h:(AQ.buf E sz bl).holds B a w H v)(hle:HV.le H H')(hw:∀b,v.ownBlock=some b->B.EC b->∀o,w.heap[b]? =some o->H' b=some o):(G3 bl).ok H' v:=by
 let⟨xs,⟨hx,hc⟩,ho,hn⟩:=h;rcases hc with⟨e,hl⟩|⟨g,cap,cur,e,hB,hg,hcap,hm,hcs,ht⟩
 .subst e;exact⟨none,0,by rw[hl],by omega,λhne=>absurd (LN hl) hne⟩
 .subst e;refine⟨_,cap,rfl,hcap,λ_=>⟨g,0,cur,E,(0,0),rfl,hw g rfl (hn g rfl).2 _ hg,?_,?_⟩⟩
  .have h1:=Mo ho;have h2:xs.length<=cur.size:=by grind
   omega
  .have h1:=Mo ho;rw[Pa,<-h1,hx,ht];exact QL hle ho
def AZ.run{rs:A3 ResultVar}{l:A3 Ty}(h:AZ P Γ rs l){a:Act}{w:AR}{H:HV}(hs:Sat w0 H0 N Γ a w H):∃vs,(rs.mapM<|YU a.tmps).run P w= .ok vs w/\Ec H l vs:=by
 induction h with
 |nil=>exact⟨[],by simp,rfl⟩
 | @tmp t τ Gk rs l h hi _ ih=>
  subst hi;let⟨vs,h1,h2⟩:=ih;have hv:τ.ok H (Ae a t):=hs.holds _<|B6 h
  refine⟨Ae a t::vs,?_,_,_,rfl,hv,h2⟩;simp only[List.mapM_cons,E0,h1,YU,K6,Dm]
  rfl
 | @cell t T T' τ Gk rs l h hT hi _ ih=>
  subst hi;let⟨vs,h1,h2⟩:=ih;let⟨b,x,e,hb,hx,hn,hB⟩:=hs.holds _<|B6 h
  refine⟨x::vs,?_,_,_,rfl,hx,h2⟩;have e':a.tmps.getD t undef= .pointer (some ⟨b,0,none⟩):=e;simp[List.mapM_cons,E0,YU,e',asAddr,K6,Dm,hT w b x T' hb<|τ.shape hx,h1]
def Qo(P:CF)(fn:Func)(w0:Aj P)(H0:HV)(Bk:Res):Exit->Act->AR->Prop:=bodyPostM (Fb none) 0 P fn<|Returns w0.w H0 Bk
def VR{w0:Aj P}{H0:HV}{N:Nat}{Γ:Ctx}{a:Act}{fn:Func}{R:Ending->AR->Prop}{F:Fence}{n:Nat}(hds:w0.ds=[])(hrd:w0.rd=none):∀{ds:A3 Deferred} {w:AR} {H:HV},Sat w0 H0 N Γ {a with defers:=ds} w H->(∀w' H',Sat w0 H0 N Γ {a with defers:=[]} w' H'->∃v,(results fn a.tmps).run P w'= .ok v w'/\R (.returned v) w')->LeavesInM F n P fn a.tmps R ds .returning w
 |[],w,H,hs,k=>k w H hs
 |d::ds,w,H,hs,k=>by
  have IV:=hs.nd;rw[hds,Ig] at IV;let⟨⟨D,e,h1,h2,h3,h4⟩,hr⟩:=IV;have h1:=h1 hrd;subst e;refine⟨(by simp),.inl ⟨D,_,rfl,run_takeDeferred h2,?_⟩⟩;refine VR hds hrd (H:=H) ?_ k;have hg:Ed w (w.putObj D<| .deferred none) (some D):=⟨⟨rfl,rfl,rfl,by simp,λj _ hj=>Zd (λe=>hj (by rw[e]))⟩,BK _⟩;have hne:∀b,b≠D->(w.putObj D<| .deferred none).heap[b]? =w.heap[b]? :=λb hb=>Zd hb
  refine Vl (a:={a with defers:={target:= .collected D,args:= #[]}::ds}) hs (hs.below.LS hg λj e=>by cases e;exact .inl h1) hg.drawn (λ_ _ _ _=>rfl) (by simp) (HV.le.refl _) ?_ ?_ ?_ ?_
  .intro r o h;rw[hne r (λe=>by subst e;rw[h3] at h;cases h)];exact hs.sub r o h
  .intro _ b _ hb;exact⟨hne b (λe=>by subst e;have:=Aj.lo_le (b:=w0);omega),rfl⟩
  .intro p hp;refine⟨hp,λb hb=>⟨hne b λe=>?_,rfl⟩⟩;subst e;let⟨_,_,o,ho,Jw⟩:=AQ.JC (hs.holds p hp) hb;rw[h2] at ho;cases ho;exact Jw
  .have:∀{l:A3 Deferred},(∀e∈l,e≠{target:= .collected D,args:= #[]})->Marks w0 w H l->Marks w0 (w.putObj D<| .deferred none) H l:=by
    intro l
    induction l with
    |nil=>exact λ_ _=>trivial
    |cons x l ih=>
     rintro hn ⟨⟨D',e,g1,g2,g3,g4⟩,gr⟩;have hD:D'≠D:=λeD=>hn x (by simp) (by rw[e,eD])
     exact⟨⟨D',e,g1,by rw[hne D' hD];exact g2,g3,g4⟩,ih (λy hy=>hn y (by simp[hy])) gr⟩
   rw[hds,Ig];exact this h4 hr
def YO(hr:fn.results=rs.toArray)(tmps:B8 AV):results fn tmps=(do let vs<-List.toArray<$>rs.mapM (YU tmps);pure (if h:vs.size=1 then vs[0] else .tuple vs)):=by
 unfold results;rw[hr,List.mapM_toArray]
 congr 2
def amB{Bk:A3 Ty}(hX:(w0.X,w0.Iw,w0.ds,w0.rd)=(KO,false,[],none))(hr:fn.results=rs.toArray)(h:AZ P Γ rs Bk)(hs:Sat w0 H0 N Γ a w H):LeavesInM (Fb none) 0 P fn a.tmps (Returns w0.w H0<| .vs Bk) a.defers .returning w:=by
 refine VR (congrArg (λp=>p.2.2.1) hX) (congrArg (λp=>p.2.2.2) hX) (a:=a) (ds:=a.defers) hs λw H hs=>?_
 have hX':w0.X=KO:=congrArg Prod.fst hX;have hV:w0.Iw=false:=congrArg (λp=>p.2.1) hX;let⟨vs,h1,h2⟩:=h.run hs;have hl:=Rw h2;rw[YO hr];simp only[E0,Sem.run_map,h1,Dm,K6];refine⟨_,rfl,_,rfl,hs.below.below hX' hV,H,(λr hr=>hs.FW hV r hr (by rw[hX'];exact λh=>h)),hs.sub,?_⟩
 match Bk,h2,hl with
 |[],h2,hl=>have:vs=[]:=h2;subst this;exact⟨#[],rfl,rfl⟩
 |[τ],h2,hl=>let⟨v,rest,e,hv,hr⟩:=h2;have:rest=[]:=hr;subst this;subst e;exact hv
 |τ::Gk::l,h2,hl=>
  have: ¬vs.toArray.size=1:=by simp[hl]
  rw[dif_neg this];exact⟨vs.toArray,rfl,by simpa using h2⟩
def ah9{l':A3 Ty}(hX:(w0.X,w0.Iw,w0.ds,w0.rd)=(KO,false,[],none))(hr:fn.results=[.tmp t].toArray)(h:look Γ t=some (.buf E sz l))(hi:l=l')(hs:Sat w0 H0 N Γ a w H):LeavesInM (Fb none) 0 P fn a.tmps (Returns w0.w H0<| .fr E sz l') a.defers .returning w:=by
 subst hi;refine VR (congrArg (λp=>p.2.2.1) hX) (congrArg (λp=>p.2.2.2) hX) (a:=a) (ds:=a.defers) hs λw H hs=>?_
 have hX':w0.X=KO:=congrArg Prod.fst hX;have hV:w0.Iw=false:=congrArg (λp=>p.2.1) hX;let⟨xs,h1,h2,h3⟩:=hs.holds _<|B6 h
 rw[YO hr];refine⟨Ae a t,?_,_,rfl,hs.below.below hX' hV,H,(λr hr=>hs.FW hV r hr (by rw[hX'];exact λh=>h)),hs.sub,xs,h1,h2,λb hb=>⟨?_,(h3 b hb).1⟩⟩
 .simp[YU,Ae]
 .rcases(h3 b hb).2 with h|h
  .exact h
  .rw[hX'] at h;exact h.elim
def CZ{Bk:A3 Ty}(hX:(w0.X,w0.Iw,w0.ds,w0.rd)=(KO,false,[],none))(hr:fn.results=rs.toArray)(h:AZ P Γ rs Bk):EJ w0 H0 N (λa w=>Qo P fn w0 H0 (.vs Bk) .ret a w) Γ:=λ_ _ _ hs=>amB hX hr h hs
def Wa{l':A3 Ty}(hX:(w0.X,w0.Iw,w0.ds,w0.rd)=(KO,false,[],none))(hr:fn.results=[.tmp t].toArray)(h:look Γ t=some (.buf E sz l))(hi:l=l'):EJ w0 H0 N (λa w=>Qo P fn w0 H0 (.fr E sz l') .ret a w) Γ:=λ_ _ _ hs=>ah9 hX hr h hi hs
def agx{f:FuncId}{Bk:Res}{N:Nat}(hf:P.funcs[f]? =some fn)(hb:fn.body=some c)(hN:fn.ntmps=N)(hn:args.length<=N)(hc:Gd P f=true)
 (h:∀w0 H0,Goal P (Aj.call P w0) H0 N c (Qo P fn (Aj.call P w0) H0 Bk)<|HZ 0 args):Ef P f args Bk:=by
 subst hN;exact⟨hc,λw H _ sub gl Aw=>(callsIn_wide (n:=0)).1<|callsIn_of_wp_marks (F:=Fence.wide) hf hb trivial<|h w H _ w H<|xf sub gl Aw hn⟩
end
section
variable[D:DR]
variable{P:Program}{N:Nat}{ops:Array Oper}{Γ An:Ctx}
variable{s:AQ}{τ:Ty}
def MC{o:Oper}(h:∀(w0:Aj P) (H0:HV) (N:Nat) (a:Act) (w:AR) (H:HV),Sat w0 H0 N Γ a w H->∃v w' H',(execOp a.eval o).run P w= .ok (.value v) w'/\Ext w H w' H'/\s.holds w0 a w' H' v/\∀b,s.owns w' v b->w.heap.size<=b):Ay P Γ o s:=by intro w0 H0 N a w H hs K Q k;let⟨v,w',H',hr,he,hv,hb⟩:=h w0 H0 N a w H hs;unfold Oper.wp;rw[hr,OO];exact k v w' H' he hv hb
def Di{o:Oper}(h:∀(w0:Aj P) (H0:HV) (N:Nat) (a:Act) (w:AR) (H:HV),Sat w0 H0 N Γ a w H->∃v,(execOp a.eval o).run P w= .ok (.value v) w/\s.holds w0 a w H v/\s.free=true):Ay P Γ o s:=
 MC λw0 H0 N a w H hs=>by let⟨v,hr,hv,hb⟩:=h w0 H0 N a w H hs;exact⟨v,w,H,hr,Ext.refl hs.sub,hv,λb e=>absurd e<|AQ.free_spec hb⟩
def aiy{o:Oper}(h:∀(w0:Aj P) (H0:HV) (N:Nat) (a:Act) (w:AR) (H:HV),Sat w0 H0 N Γ a w H->∃v,(execOp a.eval o).run P w= .ok (.value v) w/\s.holds w0 a w H v/\∀b,¬s.owns w v b):Ay P Γ o s:=
 MC λw0 H0 N a w H hs=>by let⟨v,hr,hv,hb⟩:=h w0 H0 N a w H hs;exact⟨v,w,H,hr,Ext.refl hs.sub,hv,λb e=>absurd e<|hb b⟩
structure Arg(Γ:Ctx)(x:CD)(τ:Ty):Prop where
 ok:∀{P':CF} {w0:Aj P'} {H0:HV} {N:Nat} {a:Act} {w:AR} {H:HV},Sat w0 H0 N Γ a w H->τ.ok H (a.eval x)
def Arg.t{t:Nat}{τ:Ty}(h:look Γ t=some (.val τ)):Arg Γ (.tmp t) τ:=⟨λhs=>hs.holds _<|B6 h⟩
def Arg.o{t:Nat}{c:Bool}(h:look Γ t=some (.opt c<| .val τ))(hc:c=true):Arg Γ (.tmp t) τ:=⟨λhs=>(hs.holds _<|B6 h).1 hc⟩
def Arg.int{k:IntKind}{n:Int}:Arg Γ (.const<| .int k n) (TI k n):=⟨λ_=>rfl⟩
def Arg.bool{b:Bool}:Arg Γ (.const<| .bool b) (Av b):=⟨λ_=>rfl⟩
def Arg.abZ:Arg Γ (.const<| .slice none 0 0) (G3 []):=⟨λ_=>⟨none,0,rfl,BK _,λh=>absurd rfl h⟩⟩
def Arg.imp{x:CD}{Gk:Ty}(h:Arg Γ x τ)(hi:∀H v,τ.ok H v->Gk.ok H v):Arg Γ x Gk:=⟨λhs=>hi _ _<|h.ok hs⟩
end
section
variable[D:DR]
variable{P:Program}{N:Nat}{ops:Array Oper}{Γ An:Ctx}
variable{d:Option Tmp}{ty:TypeId}{pos:String}{af:Array Edge}{g:Option (Nat×Bool)}
variable{T:Am}{τ:Ty}{t sz off:Nat}{x:CD}{l:A3 Ty}{b:Bool}{σ:Ty}{k:IntKind}{i:Int}{n:Nat}{T':Am}{len:Nat}{c:CD}{w:AR}{cs:B8 AV}{t' o:Nat}{H:HV}{ix:CD}
def gS(h:Arg Γ x τ):Ay P Γ ⟨d,.move x,ty,pos,af,g⟩ (.val τ):=Di λ_ _ _ a _ _ hs=>⟨a.eval x,rfl,h.ok hs,rfl⟩
def BM(h:Arg Γ x τ):Ay P Γ ⟨d,.assign x,ty,pos,af,g⟩ (.val τ):=Di λ_ _ _ a _ _ hs=>⟨a.eval x,rfl,h.ok hs,rfl⟩
def Mm(h:look Γ t=some (.LY l)):Ay P Γ ⟨d,.move<| .tmp t,ty,pos,af,g⟩ (.LY l):=Di λ_ _ _ a _ _ hs=>⟨Ae a t,rfl,hs.holds _<|B6 h,rfl⟩
def GH{i:Nat}(h:look Γ t=some (.LY l))(hi:l[i]? =some τ):Ay P Γ ⟨d,.extract (.tmp t) i,ty,pos,af,g⟩ (.val τ):=
 Di λ_ _ _ a w _ hs=>by
  let⟨vs,e,ho⟩:=hs.holds _<|B6 h
  let⟨v,hv,Aw⟩:=aat ho hi;have e':a.eval (.tmp t)= .tuple vs:=e;refine⟨v,?_,Aw,rfl⟩;have JY:vs[i]? =some v:=by simpa using hv
  simp[execOp,e',Instr.extract,JY]
def gP{y:CD}(hc:Arg Γ c (Av b))(hx:b=true->Arg Γ x τ)(hy:b=false->Arg Γ y τ):Ay P Γ ⟨d,.pick c x y,ty,pos,af,g⟩ (.val τ):=
 Di λ_ _ _ a w H hs=>by
  have e:a.eval c= .bool b:=hc.ok hs;refine⟨if b then a.eval x else a.eval y,?_,?_,rfl⟩
  .simp[execOp,e,asBool]
  .cases b
   .simpa[AQ.holds] using(hy rfl).ok hs
   .simpa[AQ.holds] using(hx rfl).ok hs
def Cm(h:b=true):gd b true=true:=h
def Cv(h:b=false):gd b false=true:=by subst h;rfl
def Nq{c:Bool}(h:b=true)(k:c=true):(b&&c)=true:=by subst h;subst k;rfl
def Cl{e x:Bool}(hc:Arg Γ c (Av b))(hx:look Γ t=some (.opt e<| .val<|Av x))(he:b=true->e=true):Ay P Γ ⟨d,.pick c (.tmp t)<| .const<| .bool false,ty,pos,af,g⟩ (.val<|Av<|b&&x):=by
 cases b
 .exact gP hc (λh=>by cases h)<|λ_=>Arg.bool
 .exact gP hc (λ_=>by simpa using Arg.o hx (he rfl)) (λh=>by cases h)
def Cu{e x:Bool}(hc:Arg Γ c (Av b))(hx:look Γ t=some (.opt e<| .val<|Av x))(he:b=false->e=true):Ay P Γ ⟨d,.pick c (.const<| .bool true)<| .tmp t,ty,pos,af,g⟩ (.val<|Av (b||x)):=by
 cases b
 .exact gP hc (λh=>by cases h) (λ_=>by simpa using Arg.o hx (he rfl))
 .exact gP hc (λ_=>Arg.bool) (λh=>by cases h)
def auw:TypeDesc->Bool
 | .struct _| .array _ _=>true|_=>false
def Bp(P:CF)(T:Am)(n:Nat)(agg:Bool):Bool:=
 match P.info? T,P.underlying T with|some i,some d=>Nat.beq i.size n&&(auw d==agg)&&(agg||Nat.beq n 1)|_,_=>false
def Et{d:TypeDesc}(h:P.underlying T=some d)(w:AR):(underlying T).run P w= .ok d w:=by simp[underlying,program,Sem.run,h]
theorem ye{agg:Bool}(h:Bp P T n agg=true):(∀w,(isAgg T).run P w= .ok agg w)/\(∀w,(Go.sizeOf T).run P w= .ok n w)/\(agg=false->n=1):=by
 unfold Bp at h;split at h
 .rename_i i dd hi hu;simp only[C4,Qb,QU] at h;let⟨⟨h1,h2⟩,h3⟩:=h;have h1:=E9 h1;refine⟨λw=>?_,λw=>?_,λhf=>?_⟩
  .simp[isAgg,E0,Et hu,Dm];subst h2;cases dd<;>rfl
  .simp[Go.sizeOf,typeInfo,program,Sem.run,hi];simp[h1]
  .rcases h3 with h3|h3
   .grind
   .exact E9 h3
 .cases h
theorem RI{agg:Bool}(h:Bp P T n agg=true){b:Nat}{E:Am}{fr:Nat×Nat}(hb:w.heap[b]? =some (.cells cs E fr))(hl:off+n<=cs.size):(loadVar T ⟨b,off,none⟩).run P w= .ok (Gp agg ((cs.toList.drop off).take n).toArray) w:=by
 let⟨h1,h2,h3⟩:=ye h;have abp:∀j v,((cs.toList.drop off).take n)[j]? =some v->w.cell? ((⟨b,off,none⟩:Addr).add j)=some v:=by
  intro j v hj;have bE:(⟨b,off,none⟩:Addr).add j=⟨b,off+j,none⟩:=by unfold Addr.add;split<;>simp_all
  rw[bE];rw[WH] at hj;split at hj
  .simp at hj;simp[World.cell?,hb,hj]
  .cases hj
 have hlen:((cs.toList.drop off).take n).length=n:=by simp;omega
 cases agg
 .have hn:=h3 rfl;subst hn;have hlt:off<cs.size:=by omega
  have hc:=abp 0 cs[off] (by simp[hlt]);have bE:(⟨b,off,none⟩:Addr).add 0=⟨b,off,none⟩:=rfl;rw[bE] at hc;simp[loadVar,E0,h1,Dm];simp[load,Sem.run,hc,Gp,hlt]
 .have:=run_loadCells_list (P:=P) w ⟨b,off,none⟩ _ abp;rw[hlen] at this;simp[loadVar,E0,h1,h2,Dm,if_true,this]
  rfl
def we{x:AV}(hn:x.cells.size=n):((x.cells.toList.drop 0).take n).toArray=x.cells:=by rw[Pa,D5 (by simp;omega)]
def FU{agg:Bool}(h:Bp P T n agg=true)(w:AR)(b:Nat)(x:AV)(E:Am)(hb:w.heap[b]? =some (.cells x.cells E (0,0)))(hx:Shape n agg x):(loadVar T ⟨b,0,none⟩).run P w= .ok x w:=by rw[RI h hb (by rw[hx.size];omega),we hx.size,<-hx.eq]
def BL(τ:Ty)(off:Nat)(σ:Ty):Prop:=∀(H:HV) (v:AV),τ.ok H v->off+σ.n<=v.cells.size/\σ.ok H (Gp σ.agg ((v.cells.toList.drop off).take σ.n).toArray)
def BL.agg{i:Nat}(h:l[i]? =some σ)(ho:CR (l.take i)=off):BL (DB l) off σ:=by rintro H v ⟨cs,e,ok⟩;subst e;subst ho;have:=NO ok h;simpa[Value.cells] using this
def Y3:(Gp true cs).cells=cs:=rfl
def BL.trans{ρ:Ty}{o1 o2:Nat}(h:BL τ o1 σ)(ha:σ.agg=true)(k:BL σ o2 ρ):BL τ (o1+o2) ρ:=λH v hv=>by
 let⟨h1,h2⟩:=h H v hv;let⟨k1,k2⟩:=k H _ h2;rw[ha] at k1 k2;simp only[Y3] at k1 k2;have hlen:(List.take σ.n<|List.drop o1 v.cells.toList).toArray.size=σ.n:=by simp;omega
 rw[hlen] at k1;refine⟨by omega,?_⟩;have:List.take ρ.n (List.drop o2<|List.take σ.n<|List.drop o1 v.cells.toList)=List.take ρ.n (List.drop (o1+o2) v.cells.toList):=by
  rw[MP,ON,FR]
  congr 1
  omega
 simpa[this] using k2
def Au(h:look Γ t=some (.own T' τ))(hT:Bp P T τ.n τ.agg=true):Ay P Γ ⟨d,.load T<| .tmp t,ty,pos,af,g⟩ (.val τ):=
 Di λ_ _ _ a w _ hs=>by
  let⟨b,x,e,hb,hx,_,_⟩:=hs.holds _<|B6 h
  have e':a.eval (.tmp t)= .pointer (some ⟨b,0,none⟩):=e;refine⟨x,?_,hx,rfl⟩;simp[execOp,e',Instr.loadAt,Instr.sureAddr,FU hT w b x T' hb<|τ.shape hx]
def FP(h:look Γ t=some (.ptr t' off))(h':look Γ t'=some (.own T' τ))(hp:BL τ off σ)(hT:Bp P T σ.n σ.agg=true):Ay P Γ ⟨d,.load T<| .tmp t,ty,pos,af,g⟩ (.val σ):=
 Di λ_ _ _ a w _ hs=>by
  let⟨b,x,e,hb,hx,_,_⟩:=hs.holds _<|B6 h'
  let⟨b',e1,e2⟩:=hs.holds _<|B6 h
  simp only at e e1;rw[e] at e1;cases e1;have e':a.eval (.tmp t)= .pointer (some ⟨b,off,none⟩):=e2;let⟨h1,h2⟩:=hp _ _ hx;refine⟨_,?_,h2,rfl⟩;simp[execOp,e',Instr.loadAt,Instr.sureAddr,RI hT hb h1]
def Bj(h:Arg Γ x (Jp τ))(hT:Bp P T τ.n τ.agg=true):Ay P Γ ⟨d,.load T x,ty,pos,af,g⟩ (.val τ):=
 Di λ_ _ _ a w _ hs=>by let⟨b,off,cs,E,fr,e,hb,hl,hx⟩:=h.ok hs;refine⟨_,?_,hx,rfl⟩;simp[execOp,e,Instr.loadAt,Instr.sureAddr,RI hT (hs.sub _ _ hb) hl]
def GX(P:CF)(T:Am)(k off:Nat):Bool:=
 match P.underlying T with
 |some (.struct fs)=>match fs[k]? with
  |some f=>Nat.beq f.offset off&&(match P.info? f.type with|some i=> !Nat.beq i.size 0|none=>false)
  |none=>false
 |_=>false
theorem addr_add(b off n:Nat):(⟨b,off,none⟩:Addr).add n=⟨b,off+n,none⟩:=by unfold Addr.add;split<;>simp_all
def YE{k:Nat}(h:GX P T k off=true)(b o:Nat)(w:AR):(Instr.fieldAt T (.pointer<|some ⟨b,o,none⟩) k).run P w= .ok (.pointer<|some ⟨b,o+off,none⟩) w:=by
 unfold GX at h;split at h
 .rename_i fs hu;split at h
  .rename_i f hf;simp only[C4] at h;let⟨h1,h2⟩:=h;have h1:=E9 h1;split at h2
   .rename_i i hi;have hne:i.size≠0:=by intro e;rw[e] at h2;simp at h2
    simp[Instr.fieldAt,Et hu,hf,Instr.sureAddr,fieldPlace,Go.sizeOf,typeInfo,program,Sem.run,hi,hne,addr_add,h1]
   .cases h2
  .cases h
 .cases h
def FA{k:Nat}(h:look Γ t=some (.own T' τ))(hf:GX P T k off=true):Ay P Γ ⟨d,.fieldAddr T (.tmp t) k,ty,pos,af,g⟩ (.ptr t off):=
 Di λ_ _ _ a w _ hs=>by
  let⟨b,x,e,hb,hx,_,_⟩:=hs.holds _<|B6 h
  have e':a.eval (.tmp t)= .pointer (some ⟨b,0,none⟩):=e;exact⟨.pointer<|some ⟨b,0+off,none⟩,by simp[execOp,e',YE hf],⟨b,e,by simp⟩,rfl⟩
def P7{k:Nat}(h:look Γ t=some (.ptr t' o))(hf:GX P T k off=true):Ay P Γ ⟨d,.fieldAddr T (.tmp t) k,ty,pos,af,g⟩ (.ptr t'<|o+off):=
 Di λ_ _ _ a w _ hs=>by
  let⟨b,e1,e2⟩:=hs.holds _<|B6 h
  have e':a.eval (.tmp t)= .pointer (some ⟨b,o,none⟩):=e2;exact⟨.pointer<|some ⟨b,o+off,none⟩,by simp[execOp,e',YE hf],⟨b,e1,rfl⟩,rfl⟩
def akD(hp:BL τ o σ){b:Nat}{E:Am}{fr:Nat×Nat}(hb:H b=some (.cells cs E fr))(hl:off+τ.n<=cs.size)(ha:τ.agg=true)(hx:τ.ok H (Gp τ.agg ((cs.toList.drop off).take τ.n).toArray)):(Jp σ).ok H (.pointer<|some ⟨b,off+o,none⟩):=by
 rw[ha] at hx;let⟨h1,h2⟩:=hp _ _ hx;simp only[Y3] at h1 h2;have hlen:(List.take τ.n<|List.drop off cs.toList).toArray.size=τ.n:=by simp;omega
 rw[hlen] at h1;refine⟨b,off+o,cs,E,fr,rfl,hb,by omega,?_⟩;have:List.take σ.n (List.drop o<|List.take τ.n<|List.drop off cs.toList)=List.take σ.n (List.drop (off+o) cs.toList):=by
  rw[MP,ON,FR]
  congr 1
  omega
 simpa[this] using h2
def L5{k:Nat}(h:Arg Γ x (Jp τ))(ha:τ.agg=true)(hp:BL τ off σ)(hf:GX P T k off=true):Ay P Γ ⟨d,.fieldAddr T x k,ty,pos,af,g⟩ (.val<|Jp σ):=
 Di λ_ _ _ a w _ hs=>by let⟨b,o,cs,E,fr,e,hb,hl,hx⟩:=h.ok hs;exact⟨.pointer<|some ⟨b,o+off,none⟩,by simp[execOp,e,YE hf],akD hp hb hl ha hx,rfl⟩
def LV(P:CF)(T:Am)(len sz:Nat):Bool:=
 match P.underlying T with
 |some (.array n e)=>Nat.beq n len&&(match P.info? e with|some i=>Nat.beq i.size sz|none=>false)
 |_=>false
def G2(P:CF)(T:Am)(sz:Nat):Bool:=
 match P.underlying T with
 |some (.slice e)=>(match P.info? e with|some i=>Nat.beq i.size sz|none=>false)
 |_=>false
def om(h:LV P T len sz=true):∃e i,P.underlying T=some (.array len e)/\P.info? e=some i/\i.size=sz:=by
 unfold LV at h;split at h
 .rename_i n e hu;simp only[C4] at h;let⟨h1,h2⟩:=h;have h1:=E9 h1;subst h1;split at h2
  .rename_i i hi;exact⟨e,i,hu,hi,E9 h2⟩
  .cases h2
 .cases h
def pL(h:G2 P T sz=true):∃e i,P.underlying T=some (.slice e)/\P.info? e=some i/\i.size=sz:=by
 unfold G2 at h;split at h
 .rename_i e hu;split at h
  .rename_i i hi;exact⟨e,i,hu,hi,E9 h⟩
  .cases h
 .cases h
def tZ(h:LV P T len sz=true)(b o:Nat)(h0:0<=i)(h1:i<len)(w:AR):(Instr.indexAt T (.pointer<|some ⟨b,o,none⟩)<| .int k i).run P w= .ok (.pointer<|some ⟨b,o+i.toNat*sz,none⟩) w:=by let⟨e,ii,hu,hi,hs⟩:=om h;simp[Instr.indexAt,asIntOf,Et hu,Instr.sureAddr,h0,h1,Go.sizeOf,typeInfo,program,Sem.run,hi,hs,addr_add]
def lD(h:G2 P T sz=true)(b o len cap:Nat)(h0:0<=i)(h1:i<len)(w:AR):(Instr.indexAt T (.slice (some ⟨b,o,none⟩) len cap)<| .int k i).run P w= .ok (.pointer<|some ⟨b,o+i.toNat*sz,none⟩) w:=by let⟨e,ii,hu,hi,hs⟩:=pL h;simp[Instr.indexAt,asIntOf,Et hu,h0,h1,Go.sizeOf,typeInfo,program,Sem.run,hi,hs,addr_add]
def v8(h:look Γ t=some (.own T' τ))(hT:LV P T len sz=true)(hi:Arg Γ ix (TI k i))(h0:0<=i)(h1:i<len):Ay P Γ ⟨d,.indexAddr T (.tmp t) ix,ty,pos,af,g⟩ (.ptr t<|i.toNat*sz):=
 Di λ_ _ _ a w _ hs=>by
  let⟨b,x,e,hb,hx,_,_⟩:=hs.holds _<|B6 h
  have e':a.eval (.tmp t)= .pointer (some ⟨b,0,none⟩):=e;have ei:a.eval ix= .int k i:=hi.ok hs;exact⟨.pointer<|some ⟨b,0+i.toNat*sz,none⟩,by simp[execOp,e',ei,tZ hT b 0 h0 h1],⟨b,e,by simp⟩,rfl⟩
def Mh(h:look Γ t=some (.ptr t' o))(hT:LV P T len sz=true)(hi:Arg Γ ix (TI k i))(h0:0<=i)(h1:i<len):Ay P Γ ⟨d,.indexAddr T (.tmp t) ix,ty,pos,af,g⟩ (.ptr t'<|o+i.toNat*sz):=
 Di λ_ _ _ a w _ hs=>by
  let⟨b,e1,e2⟩:=hs.holds _<|B6 h
  have e':a.eval (.tmp t)= .pointer (some ⟨b,o,none⟩):=e2;have ei:a.eval ix= .int k i:=hi.ok hs;exact⟨.pointer<|some ⟨b,o+i.toNat*sz,none⟩,by simp[execOp,e',ei,tZ hT b o h0 h1],⟨b,e1,rfl⟩,rfl⟩
def Fj(sz:Nat)(l:A3 Ty):Prop:=∀τ∈l,τ.n=sz
def KW{sz:Nat}:∀{l:A3 Ty},Fj sz l->CR l=l.length*sz
 |[],_=>by simp
 |τ::l,h=>by have h1:=h τ (by simp);have h2:=KW (l:=l) (λx hx=>h x (by simp[hx]));simp[h1,h2,Ka];omega
def Fj.take{sz:Nat}{l:A3 Ty}(h:Fj sz l)(i:Nat):Fj sz (l.take i):=λτ ht=>h τ<|Qe ht
theorem K4{α:Type _}{f:α->Ty}(h:∀x,(f x).n=sz)(l:A3 α):Fj sz (l.map f):=by simp_all [Ty.n,Fj]
def agM(h:Arg Γ x (G3 l))(hT:G2 P T sz=true)(hu:Fj sz l)(hi:Arg Γ ix (TI k i))(h0:0<=i)(hl:l[i.toNat]? =some σ):Ay P Γ ⟨d,.indexAddr T x ix,ty,pos,af,g⟩ (.val<|Jp σ):=
 Di λ_ _ _ a w _ hs=>by
  let⟨ad,cap,e,_,hx⟩:=h.ok hs;have hlt:=(FH.1 hl).1;let⟨b,o,cs,E,fr,e1,hb,hsz,ho⟩:=hx (λe=>by rw[e] at hlt;simp at hlt);subst e1;have ei:a.eval ix= .int k i:=hi.ok hs;have h1:i<l.length:=by omega
  let⟨p1,p2⟩:=NO ho hl;have hc:CR (l.take i.toNat)=i.toNat*sz:=by rw[KW<|hu.take _,E1,EU (by omega)]
  rw[hc] at p1 p2;have hlen:(List.take (CR l)<|List.drop o cs.toList).length=CR l:=by simp;omega
  rw[hlen] at p1;refine⟨.pointer<|some ⟨b,o+i.toNat*sz,none⟩,by simp[execOp,e,ei,lD hT b o l.length cap h0 h1],⟨b,_,cs,E,fr,rfl,hb,by omega,?_⟩,rfl⟩;have:List.take σ.n (List.drop (i.toNat*sz)<|List.take (CR l)<|List.drop o cs.toList)=List.take σ.n (List.drop (o+i.toNat*sz) cs.toList):=by
   rw[MP,ON,FR]
   congr 1
   omega
  rw[this] at p2;exact p2
inductive AT(Γ:Ctx):A3 CD->A3 Ty->Prop where
 |nil:AT Γ [] []|cons {x:CD} {τ:Ty} {xs:A3 CD} {l:A3 Ty} (h:Arg Γ x τ) (r:AT Γ xs l):AT Γ (x::xs) (τ::l)
def AT.ok{xs:A3 CD}{l:A3 Ty}(h:AT Γ xs l){w0:Aj P}{H0:HV}{N:Nat}{a:Act}{w:AR}{H:HV}(hs:Sat w0 H0 N Γ a w H):Ec H l (xs.map a.eval):=by induction h with|nil=>rfl|cons h _ ih=>exact⟨_,_,rfl,h.ok hs,ih⟩
def Ip:A3 Ty->AQ
 |[τ]=> .val τ|l=> .LY l
def rX:Res->AQ
 | .vs l=>Ip l| .fr E sz l=> .buf E sz l
def VV{Bk:A3 Ty}{v:AV}{B:Aj P}{a:Act}(h:LQ H Bk v):(Ip Bk).holds B a w H v:=by match Bk,h with|[],h=>exact h|[_],h=>exact h|_::_::_,h=>exact h
def Vd{Bk:A3 Ty}:(Ip Bk).free=true:=by match Bk with|[]=>rfl|[_]=>rfl|_::_::_=>rfl
theorem P6{f:FuncId}(h:Gd P f=true)(args:B8 AV)(w:AR):(callFunc f args).run P w= .ok (.enter f args) w:=by
 unfold Gd at h;split at h
 .rename_i fn hf;simp[C4,G5] at h;have hb:fn.body.isNone=false:=by cases hx:fn.body<;>simp[hx] at h⊢
  have h1:fn.name≠ "runtime.NumGoroutine" :=by simpa using h.2
  have h2:fn.body≠none:=by grind
  simp[callFunc,program,Sem.run,hf,h1,h2]
 .cases h
def Fm{f:FuncId}{xs:A3 CD}{Ex:B8 Am}{args:A3 Ty}{Bk:Res}(hf:Ef P f args Bk)(ha:AT Γ xs args):Ay P Γ ⟨d,.call ⟨.value<| .func f,xs.toArray,Ex⟩,ty,pos,af,g⟩ (rX Bk):=by
 intro w0 H0 N a w H hs K Q k;unfold Oper.wp;have e:execOp a.eval ⟨d,.call ⟨.value<| .func f,xs.toArray,Ex⟩,ty,pos,af,g⟩=callFunc f (#[]++xs.toArray.map a.eval++ #[]):=rfl;rw[e,P6 hf.can,W8];have e2:(#[]++xs.toArray.map a.eval++ #[])=(xs.map a.eval).toArray:=by simp
 rw[e2];refine(hf.run w H _ hs.sub hs.gl<|ha.ok hs).mono ?_;rintro e w' ⟨v,rfl,hb,H',h1,h2,h3⟩;have he:Ext w H w' H':=⟨hb,λr o h=>by rw[h1 r<|HG hs.sub h];exact h,h1,h2⟩;cases Bk with
 |vs l=>exact k v w' H' he (VV h3)<|λb e=>absurd e<|AQ.free_spec (s:=Ip l) Vd
 |fr E sz l=>let⟨xs,k1,k2,k3⟩:=h3;exact k v w' H' he ⟨xs,k1,k2,λb hb=>⟨(k3 b hb).2,.inl<|Ct hs.below.size (k3 b hb).1⟩⟩<|λb e=>(k3 b e).1
def ub{i:TypeInfo}{z:AV}(hi:P.info? T=some i)(hz:i.zero=some z)(w:AR):(zeroValue T).run P w= .ok z w:=by simp[zeroValue,typeInfo,program,Sem.run,hi,hz]
structure Dn(P:CF)(T:Am)(τ:Ty):Prop where
 run:∀w,∃z,(zeroValue T).run P w= .ok z w/\∀H,τ.ok H z
def FZ(z:AV)(h:(P.info? T).bind (·.zero)=some z)(hz:∀H,τ.ok H z):Dn P T τ:=⟨λw=>by cases hi:P.info? T with|none=>rw[hi] at h;cases h|some i=>rw[hi] at h;exact⟨z,ub hi h w,hz⟩⟩
def L7(h:Dn P T τ):Ay P Γ ⟨d,.alloc T,ty,pos,af,g⟩ (.own T τ):=
 MC λw0 _ _ a w H hs=>by
  let⟨z,hr,hz⟩:=h.run w;refine⟨.pointer<|some ⟨w.heap.size,0,none⟩,w.alloc<| .cells z.cells T,H,?_,Ext.alloc hs.sub _,?_,?_⟩
  .simp[execOp,Instr.alloc,hr,newVar,newRow]
  .refine⟨w.heap.size,z,rfl,Lt w _,hz H,?_,.inl hs.below.size⟩;cases hh:H w.heap.size with|none=>rfl|some o=>have:=HG hs.sub hh;omega
  .rintro b ⟨ad,e,hb⟩;cases e;simp at hb;omega
def aoG(h:Arg Γ x τ):Ay P Γ ⟨d,.box T x,ty,pos,af,g⟩ (.own T τ):=
 MC λw0 _ _ a w H hs=>by
  refine⟨.pointer<|some ⟨w.heap.size,0,none⟩,w.alloc<| .cells (a.eval x).cells T,H,?_,Ext.alloc hs.sub _,?_,?_⟩
  .simp[execOp,Instr.box,newVar,newRow]
  .refine⟨w.heap.size,a.eval x,rfl,Lt w _,h.ok hs,?_,.inl hs.below.size⟩;cases hh:H w.heap.size with|none=>rfl|some o=>have:=HG hs.sub hh;omega
  .rintro b ⟨ad,e,hb⟩;cases e;simp at hb;omega
end
section
variable[D:DR]
variable{P:Program}{N:Nat}{ops:Array Oper}{Γ An:Ctx}{d:Option Tmp}{ty:TypeId}{pos:String}{af:Array Edge}{g:Option (Nat×Bool)}
variable{T:Am}{x:CD}{T':Am}{y:CD}{n m:Int}{k:IntKind}{t:Nat}{σ τ:Ty}{w:AR}{a:Act}{H:HV}{off:Nat}{w0:Aj P}{H0:HV}{l:A3 Ty}{w':AR}{v:AV}{E:Am}{row:AA Nat}{s:AQ}{ρ:Ty}{p:Nat}{Gk:Ty}{sz:Nat}
def qi{d:Nat}{Γ:Ctx}{p:Nat×AQ}(h:p∈del d Γ):p.1≠d/\d∉p.2.C8:=YJ PN p h
def y7(hs:Sat w0 H0 N Γ a w H)(hg:Ed w w' row)(Hd:∀b,row=some b->w0.EC b/\H b=none/\∀l,w.heap[b]? ≠some (.deferred l))
 (BC:∀p∈An,p∈Γ/\∀b,p.2.owns w (Ae a p.1) b->row≠some b):Sat w0 H0 N An a w' H:=by
 have E3:∀b,b<w.heap.size->row≠some b->w'.heap[b]? =w.heap[b]? :=λb hb hn=>hg.block b hb<|λe=>hn e.symm
 refine Vl (ds:=a.defers) hs (hs.below.LS hg<|λk hk=>(Hd k hk).1) hg.drawn (λ_ _ _ _=>rfl) hg.size (HV.le.refl _) ?_ ?_ ?_ ?_
 .intro r o h;rw[E3 r (HG hs.sub h) (λe=>by have:=(Hd r e).2.1;rw[this] at h;cases h)];exact hs.sub r o h
 .intro _ b hb Fi;exact⟨E3 b hb (λe=>by have:=Aj.QS (Hd b e).1;omega),rfl⟩
 .intro p hp;exact⟨(BC p hp).1,λb hb=>⟨E3 b (AQ.JC (hs.holds p (BC p hp).1) hb).1<|(BC p hp).2 b hb,rfl⟩⟩
 .exact hs.nd.kept λD _ h1 h2=>⟨by rw[E3 D (lt_of_heap h1)<|λe=>(Hd D e).2.2 _ h1];exact h1,h2⟩
def QK(h:Sat w0 H0 N Γ a w H){d:Nat}(hd:d<N)(hf:Jl d Γ=true)(hl:d∉s.C8)
 (hs:s.holds w0 a w H v)(hfr:∀b,s.owns w v b->∀q∈Γ,¬q.2.owns w (Ae a q.1) b):Sat w0 H0 N ((d,s)::Γ) (a.put (some d) v) w H:=vS h hd hf hl hs hfr
theorem P5{b:Nat}{s':AQ}(hs:Sat w0 H0 N Γ a w H)(ht:(t,s)∈Γ)(hg:Ed w w' (some b))(hb:w0.EC b)(hob:s.owns w (Ae a t) b)
 (DO:s'.holds w0 a w' H (Ae a t))(Jw:∀c,s'.owns w' (Ae a t) c->s.owns w (Ae a t) c\/w.heap.size<=c):Sat w0 H0 N ((t,s')::BF t Γ) a w' H:=by
 let⟨h1,h2,o,h3,h4⟩:=AQ.JC (hs.holds _ ht) hob;have other:∀q∈BF t Γ,∀c,s.owns w (Ae a t) c-> ¬q.2.owns w (Ae a q.1) c:=λq hq c hc=>hs.sep _ ht q (DL q hq).1 (λe=>(DL q hq).2 e.symm) c hc
 have IE:Sat w0 H0 N (BF t Γ) a w' H:=by
  refine y7 hs hg (λc hc=>by cases hc;exact⟨hb,h2,λl e=>by rw[h3] at e;cases e;exact h4⟩)<|λq hq=>⟨(DL q hq).1,λc hc e=>?_⟩
  cases e;exact other q hq b hob hc
 have back:∀q∈BF t Γ,∀c,q.2.owns w' (Ae a q.1) c->q.2.owns w (Ae a q.1) c:=λq hq c hc=>by
  refine((AQ.YY (w':=w') (H':=H) (hs.holds q (DL q hq).1) ?_).2 c).1 hc;refine⟨hg.size,hg.os,hg.tape,hg.output,hg.drawn,HV.le.refl _,?_,λ_ _ _=>rfl,IE.sub⟩;intro c hc1 H8;refine hg.block c hc1<|λe=>?_
  cases e;rcases H8 with H8|H8
  .have:=Aj.QS hb;omega
  .grind
 refine⟨IE.nd,IE.sz,IE.below,IE.FW,IE.sub,?_,?_,IE.gl⟩
 .intro q hq;rcases Aq.1 hq with eq|hq
  .grind
  .exact IE.holds q hq
 .have key:∀q∈BF t Γ,∀c,s'.owns w' (Ae a t) c-> ¬q.2.owns w' (Ae a q.1) c:=λq hq c hc FC=>by
   rcases Jw c hc with h|h
   .grind
   .have:=(AQ.JC (hs.holds q (DL q hq).1)<|back q hq c FC).1;omega
  intro q hq r hr hne c hc FC;rcases Aq.1 hq with eq|hq<;>rcases Aq.1 hr with er|hr
  .grind
  .grind
  .grind
  .exact IE.sep q hq r hr hne c hc FC
theorem aiv(hs:Sat w0 H0 N Γ a w H)(hg:Ed w w' row)(Hd:∀b,row=some b->w0.EC b/\H b=none)
 {q:Nat×AQ}(hq:q∈Γ)(hn:∀b,q.2.owns w (Ae a q.1) b->row≠some b)(c:Nat):q.2.owns w' (Ae a q.1) c↔q.2.owns w (Ae a q.1) c:=by
 refine(AQ.YY (w':=w') (H':=H) (hs.holds q hq) ?_).2 c;refine⟨hg.size,hg.os,hg.tape,hg.output,hg.drawn,HV.le.refl _,?_,λ_ _ _=>rfl,?_⟩
 .intro c hc1 H8;refine hg.block c hc1<|λe=>?_
  rcases H8 with H8|H8
  .have:=Aj.QS (Hd c e.symm).1;omega
  .grind
 .intro r o h;rw[hg.block r (HG hs.sub h) (λe=>by have:=(Hd r e.symm).2;rw[this] at h;cases h)];exact hs.sub r o h
theorem Vk{dd:Nat}{s':AQ}(hs:Sat w0 H0 N Γ a w H)(ht:(t,s)∈Γ)(hg:Ed w w' row)
 (Hd:∀b,row=some b->s.owns w (Ae a t) b/\w0.EC b)(DJ:dd<N)(hl:dd∉s'.C8)(hv:s'.holds w0 a w' H v)(ho:∀b,s'.owns w' v b->s.owns w (Ae a t) b\/w.heap.size<=b):Sat w0 H0 N ((dd,s')::del dd (BF t Γ)) (a.put (some dd) v) w' H:=by
 have low:∀b,s.owns w (Ae a t) b->b<w.heap.size/\H b=none/\∃o,w.heap[b]? =some o/\Zx o:=λb h=>AQ.JC (hs.holds _ ht) h
 have sub:∀q∈del dd (BF t Γ),q∈Γ/\∀b,s.owns w (Ae a t) b-> ¬q.2.owns w (Ae a q.1) b:=λq hq=>by
  have h1:=DL q<|ML q hq
  exact⟨h1.1,λb hb=>hs.sep _ ht q h1.1 (λe=>h1.2 e.symm) b hb⟩
 have abk:∀b,row=some b->w0.EC b/\H b=none:=λb h=>⟨(Hd b h).2,(low b (Hd b h).1).2.1⟩
 have hn:∀q∈del dd (BF t Γ),∀b,q.2.owns w (Ae a q.1) b->row≠some b:=λq hq b hb e=>(sub q hq).2 b (Hd b e).1 hb
 have IE:Sat w0 H0 N (del dd<|BF t Γ) a w' H:=by
  refine y7 hs hg (λb h=>⟨(Hd b h).2,(abk b h).2,λl e=>?_⟩)<|λq hq=>⟨(sub q hq).1,hn q hq⟩
  let⟨_,_,o,h3,h4⟩:=low b (Hd b h).1;rw[h3] at e;cases e;exact h4
 refine QK IE DJ PN hl hv λb hb q hq hqb=>?_
 have hqb:=(aiv hs hg abk (sub q hq).1 (hn q hq) b).1 hqb;rcases ho b hb with h|h
 .grind
 .have:=(AQ.JC (hs.holds q (sub q hq).1) hqb).1;omega
def nK(w:AR):Ed w w none:=⟨⟨rfl,rfl,rfl,BK _,λ_ _ _=>rfl⟩,BK _⟩
def Gx(τ:Ty)(off:Nat)(σ Gk:Ty):Prop:=∀(H:HV) (v x:AV),τ.ok H v->σ.ok H x->off+σ.n<=v.cells.size/\
 ∃x',Gk.ok H x'/\x'.cells=(v.cells.toList.take off++x.cells.toList++v.cells.toList.drop (off+σ.n)).toArray
def Gx.whole(h:σ.n=τ.n):Gx τ 0 σ σ:=λH v x hv hx=>by have h1:=(τ.shape hv).size;refine⟨by omega,x,hx,?_⟩;rw[Mx (by simp;omega)];simp
def Gx.agg{l:A3 Ty}{i off:Nat}{σ ρ:Ty}(h:l[i]? =some ρ)(hn:σ.n=ρ.n)(ho:CR (l.take i)=off):Gx (DB l) off σ (DB<|l.set i σ):=by rintro H v x ⟨cs,e,ok⟩ hx;subst e;subst ho;let⟨p1,_⟩:=NO ok h;have hp:=Tp ok h hn hx;rw[<-hn] at p1 hp;simp[Fa] at p1;exact⟨p1,.agg _,⟨_,rfl,by simpa[Value.cells] using hp⟩,rfl⟩
def mL{n:Nat}(h:Shape n false v):v.oneCell'=true/\n=1/\v.cells= #[v]:=by
 have h1:=h.size;have h2:=h.cell;have h3:=h.eq;cases v with
 |agg c=>
  exfalso;simp[Value.cells,Gp] at h2 h3;by_cases hc:0<c.size
  .simp[hc] at h3;have:=h2 c[0] (by simp);rw[<-h3] at this;simp[Value.oneCell'] at this
  .simp[UD,iS<|po hc,undef] at h3
 |tuple c=>have:=h2 (.tuple c) (by simp[Value.cells]);simp[Value.oneCell'] at this|_=>exact⟨rfl,by simpa[Value.cells] using h1.symm,rfl⟩
def agB{n:Nat}{agg:Bool}{Kr:A3 AV}(h:Shape n agg (Gp agg Kr.toArray))(hl:Kr.length=n):(Gp agg Kr.toArray).cells=Kr.toArray:=by
 cases agg
 .let⟨_,h2,h3⟩:=mL h
  match Kr,hl.trans h2 with|[y],_=>simpa[Gp] using h3
 .rfl
theorem Gx.trans{i o1 o2:Nat}{ρ':Ty}(h:l[i]? =some ρ)(ho:CR (l.take i)=o1)(k:Gx ρ o2 σ ρ')(hn:ρ'.n=ρ.n)(e:o1+o2=off):Gx (DB l) off σ (DB<|l.set i ρ'):=by
 rintro H v x ⟨cs,e',ok⟩ hx;subst e';subst ho;subst e;let⟨p1,p2⟩:=NO ok h;have hlen:cs.toList.length=cs.size:=by simp
 rw[hlen] at p1
 generalize Ny:(List.take ρ.n<|List.drop (CR<|List.take i l) cs.toList)=Kr at p2
 have jS:Kr.length=ρ.n:=by grind
 have aoZ:=agB (ρ.shape p2) jS;let⟨k1,x',k2,k3⟩:=k H _ x p2 hx;rw[aoZ] at k1 k3;simp[iH,jS] at k1;refine⟨by simp[Value.cells];omega,.agg _,⟨_,rfl,?_⟩,rfl⟩;have hp:=Tp ok h hn k2;rw[k3] at hp;have e1:List.take (CR<|List.take i l) cs.toList++(List.take o2 Kr++x.cells.toList++List.drop (o2+σ.n) Kr)++List.drop (CR (List.take i l)+ρ.n) cs.toList=List.take (CR (List.take i l)+o2) cs.toList++x.cells.toList++List.drop (CR (List.take i l)+o2+σ.n) cs.toList:=by
  have t1:List.take (CR (List.take i l)+o2) cs.toList=List.take (CR<|List.take i l) cs.toList++List.take o2 Kr:=by rw[List.take_add,<-Ny,ON,EU (by omega)]
  have t2:List.drop (CR (List.take i l)+o2+σ.n) cs.toList=List.drop (o2+σ.n) Kr++List.drop (CR (List.take i l)+ρ.n) cs.toList:=by
   rw[<-Ny,MP,FR];have:List.drop (CR (List.take i l)+ρ.n) cs.toList=List.drop (ρ.n-(o2+σ.n)) (List.drop (CR (List.take i l)+(o2+σ.n)) cs.toList):=by rw[FR];congr 1;omega
   rw[this,Oc]
   congr 1;omega
  rw[t1,t2];simp[HY]
 rw[List.toList_toArray] at hp;rw[e1] at hp;exact hp
def T4{n:Nat}{b:Nat}{cs:B8 AV}{x:AV}(hT:(P.info? T).map (·.size)=some n)(hn:x.cells.size=n)(hb:w.heap[b]? =some (.cells cs E (0,0)))(hl:off+n<=cs.size)(h1:∀c∈x.cells.toList,c.oneCell'=true):(storeVar T ⟨b,off,none⟩ x).run P w= .ok () (w.setRow b (cs.toList.take off++x.cells.toList++cs.toList.drop (off+n)).toArray):=by
 cases hi:P.info? T with
 |none=>rw[hi] at hT;cases hT
 |some i=>rw[hi] at hT;simp at hT;have Es:=run_storeCells_at P b off E x.cells.toList 0 cs w hb (by simp;omega) h1;simp[Tw,Fa,hn] at Es;simp[storeVar,Go.sizeOf,typeInfo,program,Sem.run,hi,hT,hn,Es]
def Tj{n:Nat}{agg:Bool}(h:Bp P T n agg=true):(P.info? T).map (·.size)=some n:=by
 unfold Bp at h;split at h
 .rename_i i dd hi hu;simp only[C4] at h;rw[hi];simp[E9 h.1.1]
 .cases h
def wx{Ai:Ctx}(BC:∀q∈Ai,q∈Γ)(hp:look Ai p=some (.ptr t off))(ht:look Ai t=some (.own T' τ))(hx:Arg Ai x σ)(hs:Gx τ off σ Gk)(hT:Bp P T σ.n σ.agg=true):Step P N ops ⟨none,.store T (.tmp p) x,ty,pos,af,none⟩ Γ ((t,.own T' Gk)::BF t Γ):=by
 intro w0 H0 a w H BD K Q k;simp[Region.wanted,if_true];let⟨b,v,e,hb,hv,hH,hB⟩:=BD.holds _ (BC _<|B6 ht);let⟨b',e1,e2⟩:=BD.holds _ (BC _<|B6 hp);simp only at e e1;rw[e] at e1;cases e1;have ep:a.eval (.tmp p)= .pointer (some ⟨b,off,none⟩):=e2;have Hx:=hx.ok<|BD.weaken BC
 have CS:=σ.shape Hx;let⟨h1,x',h2,h3⟩:=hs H v _ hv Hx;have F1:=T4 (P:=P) (Tj hT) CS.size hb h1 CS.cell;rw[<-h3] at F1;unfold Oper.wp;have er:(execOp a.eval ⟨none,.store T (.tmp p) x,ty,pos,af,none⟩).run P w= .ok .skip (w.setRow b x'.cells):=by simp[execOp,ep,Instr.storeAt,Instr.sureAddr,F1]
 rw[er,QZ];have hg:Ed w (w.setRow b x'.cells) (some b):=Ed.setRow w b _;refine k a _ H<|P5 BD (BC _<|B6 ht) hg hB ⟨_,e,rfl⟩ ⟨b,x',e,Ts w b _ _ _ _ hb,h2,hH,hB⟩ λc hc=>?_
 let⟨ad,e',hc⟩:=hc;simp[e] at e';cases e';exact .inl ⟨_,e,hc⟩
def xv(hp:look Γ p=some (.ptr t off))(ht:look Γ t=some (.own T' τ))(hx:Arg Γ x σ)(hs:Gx τ off σ Gk)(hT:Bp P T σ.n σ.agg=true):Step P N ops ⟨none,.store T (.tmp p) x,ty,pos,af,none⟩ Γ ((t,.own T' Gk)::BF t Γ):=wx (λ_ h=>h) hp ht hx hs hT
def nY(hp:look Γ p=some (.ptr t off))(ht:look Γ t=some (.own T' τ))(hx:Arg Γ x σ)(hs:Gx τ off σ Gk)(hT:Bp P T σ.n σ.agg=true):Ov P N ops Γ ⟨none,.store T (.tmp p) x,ty,pos,af,none⟩ t (.own T' Gk):=λ_ BC=>wx BC hp ht hx hs hT
def ua{Ai:Ctx}(BC:∀q∈Ai,q∈Γ)(ht:look Ai t=some (.own T' τ))(hx:Arg Ai x σ)(hn:σ.n=τ.n)(hT:Bp P T σ.n σ.agg=true):Step P N ops ⟨none,.store T (.tmp t) x,ty,pos,af,none⟩ Γ ((t,.own T' σ)::BF t Γ):=by
 intro w0 H0 a w H BD K Q k;simp[Region.wanted,if_true];let⟨b,v,e,hb,hv,hH,hB⟩:=BD.holds _ (BC _<|B6 ht);have ep:a.eval (.tmp t)= .pointer (some ⟨b,0,none⟩):=e;have Hx:=hx.ok<|BD.weaken BC
 have CS:=σ.shape Hx;let⟨h1,x',h2,h3⟩:=Gx.whole hn H v _ hv Hx;have F1:=T4 (P:=P) (Tj hT) CS.size hb h1 CS.cell;rw[<-h3] at F1;unfold Oper.wp;have er:(execOp a.eval ⟨none,.store T (.tmp t) x,ty,pos,af,none⟩).run P w= .ok .skip (w.setRow b x'.cells):=by simp[execOp,ep,Instr.storeAt,Instr.sureAddr,F1]
 rw[er,QZ];have hg:Ed w (w.setRow b x'.cells) (some b):=Ed.setRow w b _;refine k a _ H<|P5 BD (BC _<|B6 ht) hg hB ⟨_,e,rfl⟩ ⟨b,x',e,Ts w b _ _ _ _ hb,h2,hH,hB⟩ λc hc=>?_
 let⟨ad,e',hc⟩:=hc;simp[e] at e';cases e';exact .inl ⟨_,e,hc⟩
def afE(ht:look Γ t=some (.own T' τ))(hx:Arg Γ x σ)(hn:σ.n=τ.n)(hT:Bp P T σ.n σ.agg=true):Step P N ops ⟨none,.store T (.tmp t) x,ty,pos,af,none⟩ Γ ((t,.own T' σ)::BF t Γ):=ua (λ_ h=>h) ht hx hn hT
def aen(ht:look Γ t=some (.own T' τ))(hx:Arg Γ x σ)(hn:σ.n=τ.n)(hT:Bp P T σ.n σ.agg=true):Ov P N ops Γ ⟨none,.store T (.tmp t) x,ty,pos,af,none⟩ t (.own T' σ):=λ_ BC=>ua BC ht hx hn hT
def I9{op:BinOp}(hx:Arg Γ x σ)(hy:Arg Γ y τ)
 (h:∀H u v,σ.ok H u->τ.ok H v->∀w:AR,(∀r o,H r=some o->w.heap[r]? =some o)->∃z,(do eqGuard op T x y u v;binOp op T u v:Sem AV).run P w= .ok z w/\ρ.ok H z):Ay P Γ ⟨d,.binOp op T x y T',ty,pos,af,g⟩ (.val ρ):=
 Di λ_ _ _ a w H hs=>by
  let⟨z,h1,h2⟩:=h H _ _ (hx.ok hs) (hy.ok hs) w hs.sub;refine⟨z,?_,h2,rfl⟩;have e:execOp a.eval ⟨d,.binOp op T x y T',ty,pos,af,g⟩=(do let z<-(do eqGuard op T x y (a.eval x) (a.eval y);binOp op T (a.eval x) (a.eval y):Sem AV);pure (.value z)):=rfl;rw[e,E0,h1]
  rfl
def Mw(hx:Arg Γ x (TI k m))(hy:Arg Γ y (TI k n)):Ay P Γ ⟨d,.binOp .add T x y T',ty,pos,af,g⟩ (.val<|TI k<|k.wrap<|m+n):=
 I9 hx hy λH u v hu hv w _=>by cases hu;cases hv;exact⟨_,by simp[eqGuard,binOp,Op.intArith],rfl⟩
def Pj(hx:Arg Γ x (TI k m))(hy:Arg Γ y (TI k n)):Ay P Γ ⟨d,.binOp .sub T x y T',ty,pos,af,g⟩ (.val<|TI k<|k.wrap<|m-n):=
 I9 hx hy λH u v hu hv w _=>by cases hu;cases hv;exact⟨_,by simp[eqGuard,binOp,Op.intArith],rfl⟩
def Na(hx:Arg Γ x (TI k m))(hy:Arg Γ y (TI k n)):Ay P Γ ⟨d,.binOp .mul T x y T',ty,pos,af,g⟩ (.val<|TI k<|k.wrap<|m*n):=
 I9 hx hy λH u v hu hv w _=>by cases hu;cases hv;exact⟨_,by simp[eqGuard,binOp,Op.intArith],rfl⟩
def aap(hx:Arg Γ x (TI k m))(hy:Arg Γ y (TI k n))(h:n≠0):Ay P Γ ⟨d,.binOp .quo T x y T',ty,pos,af,g⟩ (.val<|TI k<|k.wrap<|m.tdiv n):=
 I9 hx hy λH u v hu hv w _=>by cases hu;cases hv;exact⟨_,by simp[eqGuard,binOp,Op.intDiv,h],rfl⟩
def ao8(hx:Arg Γ x (TI k m))(hy:Arg Γ y (TI k n))(h:n≠0):Ay P Γ ⟨d,.binOp .rem T x y T',ty,pos,af,g⟩ (.val<|TI k<|m.tmod n):=
 I9 hx hy λH u v hu hv w _=>by cases hu;cases hv;exact⟨_,by simp[eqGuard,binOp,Op.intDiv,h],rfl⟩
def D4(hx:Arg Γ x (TI k m))(hy:Arg Γ y (TI k n)):Ay P Γ ⟨d,.binOp .lss T x y T',ty,pos,af,g⟩ (.val<|Av<|decide<|m<n):=
 I9 hx hy λH u v hu hv w _=>by cases hu;cases hv;exact⟨_,by simp[eqGuard,binOp,Op.intCmp],rfl⟩
def Qj(hx:Arg Γ x (TI k m))(hy:Arg Γ y (TI k n)):Ay P Γ ⟨d,.binOp .leq T x y T',ty,pos,af,g⟩ (.val<|Av<|decide<|m<=n):=
 I9 hx hy λH u v hu hv w _=>by cases hu;cases hv;exact⟨_,by simp[eqGuard,binOp,Op.intCmp],rfl⟩
def CG(hx:Arg Γ x (TI k m))(hy:Arg Γ y (TI k n)):Ay P Γ ⟨d,.binOp .gtr T x y T',ty,pos,af,g⟩ (.val<|Av<|decide<|n<m):=
 I9 hx hy λH u v hu hv w _=>by cases hu;cases hv;exact⟨_,by simp[eqGuard,binOp,Op.intCmp],rfl⟩
def HW(hx:Arg Γ x (TI k m))(hy:Arg Γ y (TI k n)):Ay P Γ ⟨d,.binOp .geq T x y T',ty,pos,af,g⟩ (.val<|Av<|decide<|n<=m):=
 I9 hx hy λH u v hu hv w _=>by cases hu;cases hv;exact⟨_,by simp[eqGuard,binOp,Op.intCmp],rfl⟩
def Ce(hx:Arg Γ x (TI k m))(hy:Arg Γ y (TI k n)):Ay P Γ ⟨d,.binOp .eql T x y T',ty,pos,af,g⟩ (.val<|Av<|decide<|m=n):=
 I9 hx hy λH u v hu hv w _=>by
  cases hu;cases hv;refine⟨.bool<|m==n,by simp[eqGuard,binOp,Op.intCmp],?_⟩;show _=_
  congr 1
def Cr(hx:Arg Γ x (TI k m))(hy:Arg Γ y (TI k n)):Ay P Γ ⟨d,.binOp .neq T x y T',ty,pos,af,g⟩ (.val<|Av<| !decide (m=n)):=
 I9 hx hy λH u v hu hv w _=>by
  cases hu;cases hv;refine⟨.bool<|m !=n,by simp[eqGuard,binOp,Op.intCmp],?_⟩;show _=_
  congr 1
def aoE{m n:ByteArray}(hx:Arg Γ x (Sv m))(hy:Arg Γ y (Sv n)):Ay P Γ ⟨d,.binOp .eql T x y T',ty,pos,af,g⟩ (.val<|Av<|m.toList==n.toList):=
 I9 hx hy λH u v hu hv w _=>by cases hu;cases hv;exact⟨_,by simp[eqGuard,binOp,Op.stringOp],rfl⟩
def ao9{m n:ByteArray}(hx:Arg Γ x (Sv m))(hy:Arg Γ y (Sv n)):Ay P Γ ⟨d,.binOp .neq T x y T',ty,pos,af,g⟩ (.val<|Av<| !(m.toList==n.toList)):=
 I9 hx hy λH u v hu hv w _=>by cases hu;cases hv;exact⟨_,by simp[eqGuard,binOp,Op.stringOp],rfl⟩
def Wr(P:CF)(T:Am):Bool:=match P.underlying T with|some .bool=>true|_=>false
def aoF{m n:Bool}(hT:Wr P T=true)(hx:Arg Γ x (Av m))(hy:Arg Γ y (Av n)):Ay P Γ ⟨d,.binOp .eql T x y T',ty,pos,af,g⟩ (.val<|Av<|m==n):=
 I9 hx hy λH u v hu hv w _=>by
  cases hu;cases hv;have hu:P.underlying T=some .bool:=by
   unfold Wr at hT;split at hT
   .assumption
   .cases hT
  refine⟨.bool<|m==n,?_,rfl⟩;have e:(Op.equal T (.bool m)<| .bool n).run P w= .ok (m==n) w:=run_equalIn_bool w 9999 T m n hu;simp[eqGuard,binOp,e]
def DX{b:Bool}(hx:Arg Γ x (Av b)):Ay P Γ ⟨d,.unOp .not T x,ty,pos,af,g⟩ (.val<|Av<| !b):=
 Di λ_ _ _ a w H hs=>by have e:a.eval x= .bool b:=hx.ok hs;exact⟨_,by simp[execOp,e,Op.unary],rfl,rfl⟩
def aaq(hx:Arg Γ x (TI k n)):Ay P Γ ⟨d,.unOp .neg T x,ty,pos,af,g⟩ (.val<|TI k<|k.wrap<|0-n):=
 Di λ_ _ _ a w H hs=>by have e:a.eval x= .int k n:=hx.ok hs;exact⟨_,by simp[execOp,e,Op.unary,Op.intArith],rfl,rfl⟩
def Cb(n:Int):Prop:= -9223372036854775808<=n/\n<=9223372036854775807
def wrap_i64(h:Cb n):IntKind.i64.wrap n=n:=by exact IntWalk.i64_in n h
def U64(n:Int):Prop:=0<=n/\n<18446744073709551616
def wrap_u64(h:U64 n):IntKind.u64.wrap n=n:=by unfold U64 at h;exact IntWalk.u64_in n (by omega)
def amO(hx:Arg Γ x (TI .i64 m))(hy:Arg Γ y (TI .i64 n))(h:Cb (m+n)):Ay P Γ ⟨d,.binOp .add T x y T',ty,pos,af,g⟩ (.val<|TI .i64<|m+n):=by have:=Mw (P:=P) (d:=d) (ty:=ty) (pos:=pos) (af:=af) (g:=g) (T:=T) (T':=T') hx hy;rwa [wrap_i64 h] at this
def amF(hx:Arg Γ x (TI .i64 m))(hy:Arg Γ y (TI .i64 n))(h:Cb (m-n)):Ay P Γ ⟨d,.binOp .sub T x y T',ty,pos,af,g⟩ (.val<|TI .i64<|m-n):=by have:=Pj (P:=P) (d:=d) (ty:=ty) (pos:=pos) (af:=af) (g:=g) (T:=T) (T':=T') hx hy;rwa [wrap_i64 h] at this
def amK(hx:Arg Γ x (TI .i64 m))(hy:Arg Γ y (TI .i64 n))(h:Cb (m*n)):Ay P Γ ⟨d,.binOp .mul T x y T',ty,pos,af,g⟩ (.val<|TI .i64<|m*n):=by have:=Na (P:=P) (d:=d) (ty:=ty) (pos:=pos) (af:=af) (g:=g) (T:=T) (T':=T') hx hy;rwa [wrap_i64 h] at this
def amI(hx:Arg Γ x (TI .i64 m))(hy:Arg Γ y (TI .i64 n))(hn:n≠0)(h:Cb (m.tdiv n)):Ay P Γ ⟨d,.binOp .quo T x y T',ty,pos,af,g⟩ (.val<|TI .i64<|m.tdiv n):=by have:=aap (P:=P) (d:=d) (ty:=ty) (pos:=pos) (af:=af) (g:=g) (T:=T) (T':=T') hx hy hn;rwa [wrap_i64 h] at this
def amJ(hx:Arg Γ x (TI .i64 n))(h:Cb (-n)):Ay P Γ ⟨d,.unOp .neg T x,ty,pos,af,g⟩ (.val<|TI .i64<| -n):=by have:=aaq (P:=P) (d:=d) (ty:=ty) (pos:=pos) (af:=af) (g:=g) (T:=T) hx;rwa [gp,wrap_i64 h] at this
def Du(P:CF)(T:Am):Bool:=match P.underlying T with|some (.slice _)=>true|_=>false
theorem fH(h:Du P T=true):∃e,P.underlying T=some (.slice e):=by
 unfold Du at h;split at h
 .grind
 .cases h
def isStr(P:CF)(T:Am):Bool:=match P.underlying T with|some .string=>true|_=>false
def nJ(h:isStr P T=true):P.underlying T=some .string:=by
 unfold isStr at h;split at h
 .assumption
 .cases h
def nD{ty:Am}(h:Du P T=true)(ad:AA Addr)(n c:Nat)(w:AR):(Builtin.len_ #[T] ty #[.slice ad n c]).run P w= .ok (.int .i64 n) w:=by let⟨e,hu⟩:=fH h;simp[Builtin.len_,Et hu,goInt]
def aoD(hT:Du P T=true)(hx:Arg Γ x (G3 l)):Ay P Γ ⟨d,.call ⟨.builtin .len,#[x],#[T]⟩,ty,pos,af,g⟩ (.val<|TI .i64 l.length):=
 Di λ_ _ _ a w H hs=>by let⟨ad,cap,e,_⟩:=hx.ok hs;exact⟨_,by simp[execOp,resolve,invoke,builtin,e,nD hT],rfl,rfl⟩
def ahJ{s:ByteArray}(hT:isStr P T=true)(hx:Arg Γ x (Sv s)):Ay P Γ ⟨d,.call ⟨.builtin .len,#[x],#[T]⟩,ty,pos,af,g⟩ (.val<|TI .i64 s.size):=
 Di λ_ _ _ a w H hs=>by have e:a.eval x= .string s:=hx.ok hs;exact⟨_,by simp[execOp,resolve,invoke,builtin,e,Builtin.len_,Et<|nJ hT,goInt],rfl,rfl⟩
theorem aaR{B:Aj P}(h:(AQ.buf E sz l).holds B a w H v):∃ad cap,v= .slice ad l.length cap:=by
 let⟨xs,⟨_,hc⟩,_⟩:=h;rcases hc with⟨e,hl⟩|⟨g,cap,cur,e,_⟩
 .grind
 .grind
def agL{s:Nat}(hT:Du P T=true)(hs:look Γ s=some (.same t))(ht:look Γ t=some (.buf E sz l)):Ay P Γ ⟨d,.call ⟨.builtin .len,#[.tmp s],#[T]⟩,ty,pos,af,g⟩ (.val<|TI .i64 l.length):=
 Di λ_ _ _ a w H BD=>by
  let⟨ad,cap,e⟩:=aaR<|BD.holds _<|B6 ht
  have e2:Ae a s=Ae a t:=BD.holds _<|B6 hs
  have e3:a.eval (.tmp s)= .slice ad l.length cap:=e2.trans e;exact⟨_,by simp[execOp,resolve,invoke,builtin,e3,nD hT],rfl,rfl⟩
def Dr:Ay P Γ ⟨d,.move<| .tmp t,ty,pos,af,g⟩ (.same t):=Di λ_ _ _ a _ _ _=>⟨Ae a t,rfl,rfl,rfl⟩
def aix:Ay P Γ ⟨d,.assign<| .const<| .slice none 0 0,ty,pos,af,g⟩ (.buf E sz []):=aiy λw0 _ _ a w _ _=>⟨.slice none 0 0,rfl,⟨[],World.ownsRow_nil w _ _ _,rfl,λb h=>by simp[Value.ownBlock] at h⟩,λb h=>by simp[AQ.owns,Value.ownBlock] at h⟩
end
end Trn
