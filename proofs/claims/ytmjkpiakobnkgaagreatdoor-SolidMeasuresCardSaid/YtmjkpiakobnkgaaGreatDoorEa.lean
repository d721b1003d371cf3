/- Part of SolidMeasures. -/
import Derived.WalkKit
import Derived.Orders
import Derived.RangeFuncIn
import Derived.RangeFuncRecord
import Derived.RangeFuncLeaves
import Derived.RangeFuncSeq
import Derived.Scope
import Derived.Shelf.Strings.Builder1
set_option maxRecDepth 100000
set_option maxHeartbeats 20000000
set_option linter.all false
open Go Go.RowKit Go.Proofs
namespace Trn
section
variable{p:Prop}
def As:= @of_decide_eq_true
def Am:= @List.mem_cons
def Br:= @List.mem_cons_of_mem
def B9:= @decide_eq_true
def Bh:= @of_decide_eq_false
def Ck:= @Classical.byContradiction
def BM:= @List.mem_map
def B8:= @cond_false
def C9:= @Bool.and_eq_true
def C2:= @List.length_map
def D6:= @List.take_of_length_le
def BQ:= @Nat.le_refl
def CB:= @decide_eq_false
def CJ:= @List.mem_append
def Ci:= @Int.toNat_natCast
def Cv:= @List.mem_singleton
def Cz:= @List.mem_cons_self
def DS:= @List.length_append
def F0:= @Int.mul_le_mul_of_nonneg_left
def BX:= @cond_true
def Dx:= @Nat.le_of_ble_eq_true
def EF:= @Nat.eq_of_beq_eq_true
def FX:= @List.getElem?_eq_some_iff
def FA:= @Int.eq_ofNat_of_zero_le
def Ch:= @Nat.le_trans
def Dt:= @Go.Result.andThen_ok
def Dr:= @List.all_eq_true
def Fw:= @List.length_singleton
def DX:= @Rat.mul_nonneg
def EK:= @List.length_take
def E2:= @List.length_cons
def Gs:= @List.getElem?_eq_getElem
def F9:= @Int.natAbs_natCast
def Fv:= @Array.length_toList
def EZ:= @Nat.min_eq_left
def Dc:= @Int.mul_add
def Ez:= @Option.some.inj
def E6:= @Go.Sem.run_bind
def JB:= @List.getD_eq_getElem?_getD
def GM:= @Bool.not_eq_true'
def GQ:= @Int.mul_left_comm
def Ih:= @decide_eq_false_iff_not
def EY:= @Int.le_of_lt
def LU:= @List.eq_nil_of_length_eq_zero
def Fe:= @List.drop_drop
def Hn:= @List.pairwise_append
def FW:= @Int.mul_assoc
def Ig:= @Nat.ble_eq_true_of_le
def Gr:= @decide_eq_decide
def Hb:= @List.pairwise_cons
def HL:= @List.getElem?_map
def GL:= @Nat.mul_le_mul
def FM:= @Int.mul_comm
def Hm:= @decide_eq_true_iff
def NH:= @Int.mul_le_mul_of_nonneg_right
def Fu:= @Rat.le_of_lt
def ID:= @List.append_assoc
def FV:= @Nat.zero_le
def Mi:= @List.getElem?_append_right
def KC:= @List.mem_of_getElem?
def KB:= @List.mem_append_left
def Ha:= @Rat.mul_eq_zero
def Ft:= @Rat.mul_pos
def Mh:= @List.getElem?_append_left
def G5:= @Rat.le_refl
def Ki:= @Bool.or_eq_false_iff
def IC:= @List.mem_filter
def KA:= @Nat.lt_of_lt_of_le
def LS:= @Nat.mul_le_mul_right
def LR:= @Nat.pow_le_pow_right
def Ie:= @List.nil_append
def Ic:= @List.map_append
def Ja:= @List.length_drop
def LQ:= @Int.emod_lt_of_pos
def NG:= @List.drop_of_length_le
def Mg:= @Int.ofNat_eq_natCast
def Hl:= @Nat.lt_or_ge
def K9:= @List.append_nil
def M1:= @Nat.eq_zero_or_pos
def M0:= @List.pairwise_map
def Nv:= @List.length_replicate
def K8:= @Int.natAbs_mul
def IB:= @Int.add_mul
def Lz:= @List.getElem_mem
def LP:= @List.length_set
def LO:= @Int.ediv_nonneg
def Kh:= @Go.run_underlying
def Oi:= @List.take_append_drop
def Oh:= @Int.emod_add_mul_ediv
def Ly:= @Int.emod_nonneg
def Mf:= @List.mem_flatMap
def LN:= @Int.mul_nonneg
def Kg:= @Bool.true_and
def JA:= @Int.one_mul
def K7:= @Go.Sem.run_pure
def K6:= @getElem!_pos
def Nu:= @Rat.div_mul_cancel
def Lx:= @Go.heap_alloc_new
def Ps:= @Array.getElem?_toList
def LM:= @Nat.add_assoc
def Sh:= @Array.getElem?_eq_some_iff
def LH:= @Prod.mk.injEq
def MX:= @List.drop_take
def N8:= @Rat.num_eq_zero
def Nl:= @List.drop_append
def Sg:= @List.Pairwise.imp_of_mem
def UT:= @Array.getD_eq_getD_getElem?
def Ke:= @Nat.add_mul
def OY:= @Rat.divInt_eq_div
def OX:= @List.flatMap_cons
def MW:= @List.map_cons
def Qp:= @List.mem_of_mem_take
def Qo:= @Prod.ext_iff
def US:= @List.drop_eq_getElem_cons
def MV:= @Nat.mul_comm
def OW:= @Go.Oper.upon_value
def Lt:= @Nat.one_mul
def Ls:= @Int.mul_one
def UR:= @List.pairwise_singleton
def OV:= @List.take_take
def Ph:= @Option.map_some
def Zu:= @Rat.mul_le_mul_of_nonneg_right
def UQ:= @List.contains_iff_mem
def UP:= @Array.getElem?_modify
def Nk:= @List.map_map
def Qn:= @List.nil_sublist
def OU:= @List.all_cons
def N7:= @Nat.pow_add
def MU:= @bne_iff_ne
def UO:= @List.mem_of_mem_drop
def Pg:= @List.drop_zero
def Pf:= @Int.mul_le_mul
def Pe:= @Bool.false_and
def Sf:= @List.nodup_append
def Qm:= @Bool.or_eq_true
def UN:= @List.length_pos_iff
def Wb:= @List.getElem?_set_self
def Wa:= @Int.sign_eq_one_of_pos
def Se:= @List.cons_append
def Sd:= @Nat.mod_eq_of_lt
def Sc:= @List.drop_length
def Sb:= @Int.ediv_le_self
def UM:= @Bool.false_eq_true
def WZ:= @List.mem_append_right
def Ql:= @List.mem_range
def Qk:= @Go.Oper.upon_skip
def UK:= @List.getElem?_drop
def WY:= @List.mem_iff_getElem?
def Zt:= @List.pairwise_iff_getElem
def OT:= @Rat.div_def
def Pd:= @Nat.zero_add
def Pc:= @Nat.add_comm
def Sa:= @Int.natCast_mul
def SZ:= @Int.mul_ne_zero
def UJ:= @Int.emod_eq_of_lt
def Zr:= @Go.World.putObj_heap_other
def Zq:= @List.sublist_append_iff
def UI:= @Nat.le_add_right
def OS:= @Nat.mod_lt
def Pb:= @Nat.log2_lt
def WX:= @List.getElem?_take
def WW:= @List.filter_append
def WV:= @Bool.not_eq_false'
def j7:= @Int.gcd_pos_of_ne_zero_left
def UH:= @List.length_nil
def Zp:= @Int.ediv_lt_of_lt_mul
def UG:= @Rat.num_intCast
def Zl:= @List.eq_nil_or_concat
def j6:= @Array.toList_setIfInBounds
def j5:= @Int.sign_eq_neg_one_of_neg
def WU:= @decide_eq_true_eq
def WT:= @List.ext_getElem?
def WS:= @Int.lt_trichotomy
def j4:= @Array.getElem?_eq_getElem
def ir:= @Int.lt_of_mul_lt_mul_left
def iq:= @List.sublist_append_right
def Qj:= @Nat.le_succ
def Qi:= @Rat.inv_pos
def WR:= @List.take_append
def SY:= @Nat.succ_mul
def SX:= @Nat.gcd_comm
def WQ:= @List.isEmpty_iff
def SV:= @Nat.pow_succ
def Zk:= @List.take_replicate
def Zj:= @Nat.mul_le_mul_left
def Qh:= @beq_iff_eq
def WO:= @Go.Oper.upon_enter
def WN:= @Array.size_ofFn
def WM:= @Rat.den_intCast
def Zi:= @Rat.mul_inv_cancel
def WL:= @List.any_append
def Zh:= @List.map_singleton
def im:= @Array.getElem?_eq_none
def il:= @List.length_eq_one_iff
def Zg:= @List.any_eq_false
def Zf:= @List.Sublist.refl
def WK:= @List.drop_left
def UF:= @Nat.add_zero
def UE:= @List.map_set
def ik:= @Array.getElem?_append
def UD:= @Int.mul_zero
def WJ:= @Rat.mkRat_self
def ij:= @List.pairwise_flatMap
def Ze:= @List.not_mem_nil
def Zd:= @Option.getD_some
def Zc:= @Nat.le_of_not_lt
def Zb:= @Go.Lib.cell_of_heap
def Za:= @List.filter_cons
def ig:= @BitVec.ofInt_natCast
def ZZ:= @List.append_inj'
def qe:= @List.map_take
def WI:= @Bool.false_or
def UC:= @Go.setRow_heap
def UB:= @Int.mul_sub
def ie:= @List.take_succ_cons
def iZ:= @List.map_congr_left
def iY:= @List.drop_set_of_lt
def iX:= @beq_eq_false_iff_ne
def qd:= @List.getElem?_zip_eq_some
def ZY:= @Bool.decide_and
def ZX:= @Bool.eq_iff_iff
def WH:= @Nat.le_of_lt
def iW:= @List.map_replicate
def WG:= @Int.add_zero
def iV:= @BitVec.toNat_ofNat
def iU:= @Rat.sub_eq_add_neg
def ZW:= @Bool.and_false
def iS:= @List.size_toArray
def qc:= @Go.World.putObj_heap_same
def iR:= @List.any_eq_true
def iQ:= @Int.sign_neg_iff
def ZV:= @List.map_nil
def ZU:= @Bool.true_or
def iP:= @List.foldl_cons
def iN:= @List.nodup_cons
def qb:= @List.contains_eq_mem
def qa:= @List.getElem?_set_ne
def iM:= @List.all_append
def ZT:= @Rat.le_trans
def iL:= @UInt8.toNat_inj
def ZS:= @or_and_right
def iK:= @Rat.intCast_inj
def qZ:= @Nat.pow_le_pow_left
def iJ:= @List.take_left
def iI:= @Rat.num_divInt
def iH:= @Rat.den_divInt
def iG:= @Int.natAbs_neg
def ZR:= @Int.sub_mul
def ZQ:= @Nat.pow_pos
def WE:= @Go.wpIn_mono
def qY:= @List.append_of_mem
def iF:= @Bool.or_false
def iE:= @Bool.and_true
def iD:= @Bool.not_true
def qW:= @Int.natAbs_add_le
def iC:= @Nat.zero_mul
def qV:= @Nat.sub_self
def iB:= @Rat.le_total
def BS(h:p:=by dsimp only;omega):p:=h
def DJ(h:p:=by simp;omega):p:=h
def L9(h:p:=by decide):p:=h
def F6(h:p:=by rfl):p:=h
theorem AK(h:p:=by grind):p:=h
def AT(h:p:=by simp):p:=h
def A4(h:p:=by omega):p:=h
def A6{α:Sort _}{a b:α}(h:a=b:=by kernel_rfl):a=b:=h
end
abbrev A3:=List
abbrev A9:=Option
abbrev AR:=World
abbrev AV:=Value
abbrev CR:=Operand
abbrev Ap:=TypeId
abbrev CP:=Program
abbrev BG:=Array
abbrev HV:=Nat->A9 Obj
class DR where
 on:Bool
def DR.m[D:DR](w:AR):Nat:=cond D.on w.drawn 0
abbrev DR.strict:DR:=⟨true⟩
instance DR.lax:DR:=⟨false⟩
abbrev H9[D:DR](w w':AR):Prop:=DR.m w<=DR.m w'
theorem H9.of[D:DR]{w w':AR}(h:w.drawn<=w'.drawn):H9 w w':=by
 unfold H9 DR.m;cases D.on
 .grind
 .exact h
class aca[D:DR]:Prop where
 off:D.on=false
instance: @aca DR.lax:= @aca.mk DR.lax rfl
def HV.le(H H':HV):Prop:=∀r o,H r=some o->H' r=some o
def HV.le.refl(H:HV):HV.le H H:=λ_ _ h=>h
def HV.le.trans{A B C:HV}(h:HV.le A B)(k:HV.le B C):HV.le A C:=λr o x=>k r o<|h r o x
def eh:BG AV:=((List.range 20).map λi=>Value.int .u64<|10^i).toArray
def Sp(P:CP)(T:Ap)(o:A9 Obj):Prop:=match P.underlying T with|some (.int k)=>∃m E fr,o=some (.cells #[.int k m] E fr)|some (.array 20 _)=>∃E fr,o=some (.cells eh E fr)|_=>True
def LY(P:CP)(H:HV):Prop:=∀g T,(P.globals[g]?).map (·.type)=some T->Sp P T (H g)
def LY.mono{P:CP}{H H':HV}(h:HV.le H H')(k:LY P H):LY P H':=λg T e=>by
 have:=k g T e;unfold Sp at this⊢;split
 .rename_i hu;rw[hu] at this;let⟨m,E,fr,e⟩:=this;exact⟨m,E,fr,h _ _ e⟩
 .rename_i hu;rw[hu] at this;let⟨E,fr,e⟩:=this;exact⟨E,fr,h _ _ e⟩
 .trivial
structure Ah(P:CP) where
 w:AR
 X:Nat->Prop
 rd:A9 Nat
 Iv:Bool
 ds:A3 Deferred
 lo:Nat
 acq:lo<=w.heap.size
 asW:∀k,X k->lo<=k
section
variable{P:Program}
def KR:Nat->Prop:=λ_=>False
def Ah.call(P:CP)(w:AR):Ah P:=⟨w,KR,none,false,[],w.heap.size,BQ _,λ_ h=>h.elim⟩
def Ah.n(b:Ah P):Nat:=b.w.heap.size
def Ah.EH(b:Ah P)(k:Nat):Prop:=b.n<=k\/b.X k
def Ah.Qe{b:Ah P}{k:Nat}(h:b.EH k):b.lo<=k:=h.elim (λh=>Ch b.acq h)<|b.asW k
def Ah.lo_le{b:Ah P}:b.lo<=b.n:=b.acq
end
section
variable{P:Program}
variable[D:DR]
variable{w:AR}{b:Ah P}
structure Fc(n:Nat)(w w':AR):Prop extends Below n w w' where
 drawn:H9 w w'
structure Ef(w w':AR)(row:A9 Nat):Prop extends w.grownBy w' row where
 drawn:H9 w w'
def Fc.refl(n:Nat)(w:AR):Fc n w w:=⟨Below.refl _ _,BQ _⟩
def Fc.alloc{w:AR}(o:Obj):Fc w.heap.size w (w.alloc o):=⟨(Below.refl _ _).alloc (BQ _) _,BQ _⟩
def Ef.setRow(w:AR)(b:Nat)(cs:BG AV):Ef w (w.setRow b cs) (some b):=⟨⟨rfl,rfl,rfl,by simp,λk _ hk=>setRow_other w b k _ (λe=>hk (by rw[e]))⟩,BQ _⟩
structure Kept(b:Ah P)(w:AR):Prop where
 os:w.os=b.w.os
 tape:w.tape=b.w.tape
 output:w.output=b.w.output
 drawn:H9 b.w w
 size:b.n<=w.heap.size
 block:b.Iv=false->∀k,k<b.n-> ¬b.X k->w.heap[k]? =b.w.heap[k]?
def Kept.step{w':AR}(h:Kept b w)(k:Fc w.heap.size w w'):Kept b w':=⟨k.os.trans h.os,k.tape.trans h.tape,k.output.trans h.output,Ch h.drawn k.drawn,Ch h.size k.size,λhv i hi hx=>(k.block i<|KA hi h.size).trans<|h.block hv i hi hx⟩
def Kept.Lb{w':AR}{row:A9 Nat}(h:Kept b w)(g:Ef w w' row)(hr:∀k,row=some k->b.EH k):Kept b w':=
 ⟨g.os.trans h.os,g.tape.trans h.tape,g.output.trans h.output,Ch h.drawn g.drawn,Ch h.size g.size,λhv i hi hx=>(g.block i (KA hi h.size) (λe=>by
  rcases hr i e.symm with h1|h1
  .omega
  .exact hx h1)).trans<|h.block hv i hi hx⟩
def Kept.below(h:Kept b w)(hX:b.X=KR)(hv:b.Iv=false):Fc b.w.heap.size b.w w:=⟨⟨h.os,h.tape,h.output,h.size,λk hk=>h.block hv k hk (by rw[hX];exact λh=>h)⟩,h.drawn⟩
end
section
variable{P:Program}
variable{H:HV}{v:AV}{H':HV}
def grow(H:HV)(w w':AR):HV:=λr=>if r<w.heap.size then H r else w'.heap[r]?
def H6:Bool->BG AV->AV
 |true,cs=> .agg cs|false,cs=>cs.getD 0 undef
structure Shape(n:Nat)(agg:Bool)(v:AV):Prop where
 size:v.cells.size=n
 cell:∀c∈v.cells.toList,c.oneCell'=true
 eq:v=H6 agg v.cells
def Shape.one(h:v.oneCell'=true):Shape 1 false v:=by
 have hc:v.cells= #[v]:=by cases v<;>first|rfl|simp[Value.oneCell'] at h
 refine⟨by simp[hc],by simp[hc,h],by simp[hc,H6]⟩
structure Ty where
 n:Nat
 agg:Bool
 ok:HV->AV->Prop
 mono:∀{H H':HV} {v:AV},HV.le H H'->ok H v->ok H' v
 shape:∀{H:HV} {v:AV},ok H v->Shape n agg v
def TEq(v:AV)(h:v.oneCell'=true):Ty where
 n:=1
 agg:=false
 ok:=λ_ x=>x=v
 mono:=λ_ h=>h
 shape:=λe=>by subst e;exact Shape.one h
def TI(k:IntKind)(n:Int):Ty:=TEq (.int k n) rfl
def Ay(b:Bool):Ty:=TEq (.bool b) rfl
def TM(s:ByteArray):Ty:=TEq (.string s) rfl
@[simp] theorem sU{k:IntKind}{n:Int}:(TI k n).ok H v↔v= .int k n:=Iff.rfl
@[simp] theorem avw{b:Bool}:(Ay b).ok H v↔v= .bool b:=Iff.rfl
@[simp] theorem avy{b:ByteArray}:(TM b).ok H v↔v= .string b:=Iff.rfl
def Db(H:HV):A3 Ty->A3 AV->Prop
 |[],cs=>cs=[]|τ::l,cs=>∃v rest,cs=v.cells.toList++rest/\τ.ok H v/\Db H l rest
def CS(l:A3 Ty):Nat:=(l.map (·.n)).sum
@[simp] theorem aiG:CS []=0:=rfl
@[simp] theorem nT(τ:Ty)(l:A3 Ty):CS (τ::l)=τ.n+CS l:=by simp[CS]
def QW{H H':HV}(h:HV.le H H'):∀{l:A3 Ty} {cs:A3 AV},Db H l cs->Db H' l cs
 |[],_,e=>e|_::_,_,⟨v,rest,e,hv,hr⟩=>⟨v,rest,e,Ty.mono _ h hv,QW h hr⟩
def N6{H:HV}:∀{l:A3 Ty} {cs:A3 AV},Db H l cs->cs.length=CS l
 |[],_,e=>by subst e;rfl
 |τ::l,_,⟨v,rest,e,hv,hr⟩=>by subst e;have:=N6 hr;have hs:=(τ.shape hv).size;simp[this,hs]
def SG{H:HV}:∀{l:A3 Ty} {cs:A3 AV},Db H l cs->∀c∈cs,c.oneCell'=true
 |[],_,e=>by subst e;simp
 |τ::l,_,⟨v,rest,e,hv,hr⟩=>by
  subst e;intro c hc;rcases CJ.1 hc with h|h
  .exact(τ.shape hv).cell c h
  .exact SG hr c h
def S4{H:HV}:∀{l:A3 Ty} {cs:A3 AV} {l':A3 Ty} {ED:A3 AV},Db H l cs->Db H l' ED->Db H (l++l') (cs++ED)
 |[],_,_,_,e,h=>by subst e;simpa using h
 |_::_,_,_,_,⟨v,rest,e,hv,hr⟩,h=>by subst e;exact⟨v,_,by simp,hv,S4 hr h⟩
def Nb{H:HV}:∀{l:A3 Ty} {cs:A3 AV} {i:Nat} {τ:Ty},Db H l cs->l[i]? =some τ->CS (l.take i)+τ.n<=cs.length/\τ.ok H (H6 τ.agg ((cs.drop<|CS<|l.take i).take τ.n).toArray)
 |[],_,i,_,_,h=>by simp at h
 |σ::l,_,0,τ,⟨v,rest,e,hv,hr⟩,h=>by
  simp at h;subst h;subst e;have hs:=σ.shape hv;refine⟨by simp[hs.size],?_⟩;have:(List.take σ.n<|v.cells.toList++rest).toArray=v.cells:=by rw[<-hs.size,<-Fv,iJ]
  simpa[this,<-hs.eq] using hv
 |σ::l,_,i+1,τ,⟨v,rest,e,hv,hr⟩,h=>by
  simp at h;subst e;have hs:=σ.shape hv;let⟨h1,h2⟩:=Nb hr h;have hd:List.drop (σ.n+CS (List.take i l)) (v.cells.toList++rest)=List.drop (CS<|List.take i l) rest:=by rw[<-hs.size,<-Fv,Nl];simp
  refine⟨?_,?_⟩
  .simp[hs.size];omega
  .simp[ie,nT,hd];exact h2
def UA{H:HV}:∀{l:A3 Ty} {cs:A3 AV} {i:Nat} {τ σ:Ty} {x:AV},Db H l cs->l[i]? =some τ->σ.n=τ.n->σ.ok H x->Db H (l.set i σ) (cs.take (CS<|l.take i)++x.cells.toList++cs.drop (CS (l.take i)+τ.n))
 |[],_,i,_,_,_,_,h,_,_=>by simp at h
 |ρ::l,_,0,τ,σ,x,⟨v,rest,e,hv,hr⟩,h,hn,hx=>by
  simp at h;subst h;subst e;have hs:=ρ.shape hv;have hd:List.drop ρ.n (v.cells.toList++rest)=rest:=by rw[<-hs.size,<-Fv,WK]
  simp[List.set_cons_zero,List.take_zero,aiG,Pd,Ie,hd];exact⟨x,rest,rfl,hx,hr⟩
 |ρ::l,_,i+1,τ,σ,x,⟨v,rest,e,hv,hr⟩,h,hn,hx=>by
  simp at h;subst e;have hs:=ρ.shape hv;have ih:=UA hr h hn hx;have h1:List.take (ρ.n+CS (List.take i l)) (v.cells.toList++rest)=v.cells.toList++List.take (CS<|List.take i l) rest:=by rw[<-hs.size,<-Fv,WR];simp[D6]
  have h2:List.drop (ρ.n+CS (List.take i l)+τ.n) (v.cells.toList++rest)=List.drop (CS (List.take i l)+τ.n) rest:=by rw[<-hs.size,<-Fv,LM,Nl];simp
  simp[List.set_cons_succ,ie,nT,h1,h2];exact⟨v,_,by simp,hv,ih⟩
def DH(l:A3 Ty):Ty where
 n:=CS l
 agg:=true
 ok:=λH v=>∃cs,v= .agg cs/\Db H l cs.toList
 mono:=λh ⟨cs,e,k⟩=>⟨cs,e,QW h k⟩
 shape:=λ⟨cs,e,k⟩=>by subst e;exact⟨by simpa[Value.cells] using N6 k,by simpa[Value.cells] using SG k,rfl⟩
def Ee(H:HV):A3 Ty->A3 AV->Prop
 |[],vs=>vs=[]|τ::l,vs=>∃v rest,vs=v::rest/\τ.ok H v/\Ee H l rest
def Yw{H H':HV}(h:HV.le H H'):∀{l:A3 Ty} {vs:A3 AV},Ee H l vs->Ee H' l vs
 |[],_,e=>e|_::_,_,⟨v,rest,e,hv,hr⟩=>⟨v,rest,e,Ty.mono _ h hv,Yw h hr⟩
def aba{H:HV}:∀{l:A3 Ty} {vs:A3 AV} {i:Nat} {τ:Ty},Ee H l vs->l[i]? =some τ->∃v,vs[i]? =some v/\τ.ok H v
 |[],_,i,_,_,h=>by simp at h|_::_,_,0,_,⟨v,rest,e,hv,_⟩,h=>by simp at h;subst h;subst e;exact⟨v,rfl,hv⟩|_::_,_,i+1,_,⟨v,rest,e,_,hr⟩,h=>by simp at h;subst e;simpa using aba hr h
def SO{H:HV}:∀{l:A3 Ty} {vs:A3 AV},Ee H l vs->vs.length=l.length
 |[],_,e=>by subst e;rfl|_::_,_,⟨v,rest,e,_,hr⟩=>by subst e;simp[SO hr]
def Jl(τ:Ty):Ty where
 n:=1
 agg:=false
 ok:=λH v=>∃b off cs E fr,v= .pointer (some ⟨b,off,none⟩)/\H b=some (.cells cs E fr)/\off+τ.n<=cs.size/\
  τ.ok H (H6 τ.agg ((cs.toList.drop off).take τ.n).toArray)
 mono:=λh ⟨b,off,cs,E,fr,e,hb,hl,k⟩=>⟨b,off,cs,E,fr,e,h _ _ hb,hl,τ.mono h k⟩
 shape:=λ⟨_,_,_,_,_,e,_⟩=>by subst e;exact Shape.one rfl
def GJ(l:A3 Ty):Ty where
 n:=1
 agg:=false
 ok:=λH v=>∃ad cap,v= .slice ad l.length cap/\l.length<=cap/\
  (l≠[]->∃b off cs E fr,ad=some ⟨b,off,none⟩/\H b=some (.cells cs E fr)/\off+CS l<=cs.size/\Db H l ((cs.toList.drop off).take<|CS l))
 mono:=λh ⟨ad,cap,e,hc,k⟩=>⟨ad,cap,e,hc,λhl=>by let⟨b,off,cs,E,fr,e1,hb,hs,ho⟩:=k hl;exact⟨b,off,cs,E,fr,e1,h _ _ hb,hs,QW h ho⟩⟩
 shape:=λ⟨_,_,e,_,_⟩=>by subst e;exact Shape.one rfl
def TEx{α:Type}(n:Nat)(agg:Bool)(p:α->Prop)(τ:α->Ty)(hn:∀a,(τ a).n=n)(ha:∀a,(τ a).agg=agg):Ty where
 n:=n
 agg:=agg
 ok:=λH v=>∃a,p a/\(τ a).ok H v
 mono:=λh ⟨a,pa,k⟩=>⟨a,pa,(τ a).mono h k⟩
 shape:=λ⟨a,_,k⟩=>by have:=(τ a).shape k;rw[hn,ha] at this;exact this
def okM(H:HV):Nat->A3 (Ty×Ty)->A3 MapEntry->Prop
 |_,[],[]=>True|i,(k,e)::l,x::xs=>k.ok H x.key/\e.ok H x.val/\x.born=i/\okM H (i+1) l xs|_,_,_=>False
def pC{H H':HV}(h:HV.le H H'):∀{i:Nat} {l:A3 (Ty×Ty)} {es:A3 MapEntry},okM H i l es->okM H' i l es
 |_,[],[],_=>trivial|_,[],_::_,k=>k.elim|_,(_,_)::_,[],k=>k.elim|_,(k,e)::_,_::_,⟨h1,h2,h3,h4⟩=>⟨k.mono h h1,e.mono h h2,h3,pC h h4⟩
def kW(L:A3 (Ty×Ty)):Ty where
 n:=1
 agg:=false
 ok:=λH v=>∃r es,v= .map (some r)/\H r=some (.map es es.size)/\okM H 0 L es.toList
 mono:=λh ⟨r,es,e,hr,k⟩=>⟨r,es,e,h _ _ hr,pC h k⟩
 shape:=λ⟨_,_,e,_,_⟩=>by subst e;exact Shape.one rfl
end
section
variable{P:Program}
variable[D:DR]
variable{w:AR}{H:HV}{B:Ah P}{v:AV}{a:Act}{w':AR}{H':HV}{b:Nat}{Eb:Ap}{w0:Ah P}{H0:HV}{N d:Nat}{B':Ah P}{E:Ap}{l:A3 Ty}
structure Far(n:Nat)(own:Nat->Prop)(w:AR)(H:HV)(w':AR)(H':HV):Prop where
 size:w.heap.size<=w'.heap.size
 os:w'.os=w.os
 tape:w'.tape=w.tape
 output:w'.output=w.output
 drawn:H9 w w'
 le:HV.le H H'
 E9:∀b,b<w.heap.size->(b<n\/own b)->w'.heap[b]? =w.heap[b]?
 view:∀b,b<w.heap.size->(b<n\/own b)->H' b=H b
 sub:∀r o,H' r=some o->w'.heap[r]? =some o
def Far.imp{n m:Nat}{p q:Nat->Prop}{w w':AR}{H H':HV}(h:Far n p w H w' H')(hm:m<=n)(hq:∀b,q b->p b):Far m q w H w' H':=⟨h.size,h.os,h.tape,h.output,h.drawn,h.le,λb hb k=>h.E9 b hb<|k.imp (λx=>KA x hm)<|hq b,λb hb k=>h.view b hb<|k.imp (λx=>KA x hm)<|hq b,h.sub⟩
def aG:Obj->Prop
 | .deferred _=>False|_=>True
structure Inv where
 n:Nat
 M:Nat->Prop
 p:AR->HV->Prop
 lt:∀{w:AR} {H:HV} {b:Nat},p w H->M b->b<w.heap.size/\H b=none/\∃o,w.heap[b]? =some o/\aG o
 step:∀{w w':AR} {H H':HV},p w H->Far n M w H w' H'->p w' H'
inductive DI where
 |val(τ:Ty)|buf(l:A3 Ty)|any
inductive Bu where
 |val(τ:Ty)|any(n:Nat)(agg:Bool)|sm(u:Nat)|buf(E:Ap)(sz:Nat)(l:A3 Ty)|map(K E:Ap)(Eb:Ap)(sz:Nat)(Ec:A3 (Ty×DI))
inductive AS where
 |val(τ:Ty)|tup(l:A3 Ty)|own(T:Ap)(τ:Ty)|ptr(t off:Nat)|opt(c:Bool)(s:AS)|same(t:Nat)|KH(t j sz:Nat)|bpf(t off:Nat)|gone|buf(E:Ap)(sz:Nat)(l:A3 Ty)|O5(x:AV)(E:Ap)(sz:Nat)(l:A3 Ty)|DA(T:Ap)(agg:Bool)(ps:A3 Bu)|H4(K E:Ap)(Eb:Ap)(sz:Nat)(Ec:A3 (Ty×DI))|RV(Eb:Ap)(sz:Nat)(l:A3 Ty)(i:Nat)|inv(I:Inv)|KP(t:Nat)(v:AV)|E0(l:Nat)(rc:Loop)|JF(L:A3 (Ty×Ty))(seen:A3 Nat)|vec(k:A9 FuncId)(us:A3 Nat)|T7(t:Nat)(i:Int)|I4(T E:Ap)(l:A3 Ty)|F2(E:Ap)(pre post:A3 AV)(l:A3 Ty)|win(t j n sz:Nat)|NQ(t i sz:Nat)
def Ae(a:Act)(t:Nat):AV:=a.tmps.getD t undef
def ay(a:Act)(k:A9 FuncId)(us:A3 Nat):AV:=match k with|none=> .agg (us.map<|Ae a).toArray|some f=> .func (.func f) #[] (us.map<|Ae a).toArray
def Kk(B:Ah P)(w:AR)(H:HV)(E:Ap)(sz:Nat)(l:A3 Ty)(v:AV):Prop:=∃xs,w.ownsRow 0 E sz v l.length xs/\Db H l xs/\∀b,v.ownBlock=some b->H b=none/\B.EH b
def DI.holds(B:Ah P)(w:AR)(H:HV)(Eb:Ap)(sz:Nat)(v:AV):DI->Prop
 | .val τ=>τ.ok H v| .buf l=>Kk B w H Eb sz l v| .any=>True
def DI.owns(v:AV)(b:Nat):DI->Prop
 | .buf _=>v.ownBlock=some b|_=>False
def KQ(B:Ah P)(w:AR)(H:HV)(Eb:Ap)(sz:Nat):Nat->A3 (Ty×DI)->A3 MapEntry->Prop
 |_,[],[]=>True|i,(k,e)::l,x::xs=>k.ok H x.key/\e.holds B w H Eb sz x.val/\x.born=i/\KQ B w H Eb sz (i+1) l xs|_,_,_=>False
def Hq(b:Nat):A3 (Ty×DI)->A3 MapEntry->Prop
 |(_,e)::l,x::xs=>e.owns x.val b\/Hq b l xs|_,_=>False
def Ox:A3 (Ty×DI)->A3 MapEntry->Prop
 |(_,e)::l,x::xs=>(∀b,e.owns x.val b-> ¬Hq b l xs)/\Ox l xs|_,_=>True
def RG(B:Ah P)(w:AR)(H:HV)(Eb:Ap)(sz:Nat)(Ec:A3 (Ty×DI))(v:AV):Prop:=∃r es,v= .map (some r)/\w.heap[r]? =some (.map es es.size)/\H r=none/\B.EH r/\KQ B w H Eb sz 0 Ec es.toList/\Ox Ec es.toList
def PZ(w:AR)(Ec:A3 (Ty×DI))(v:AV)(b:Nat):Prop:=v= .map (some b)\/∃r es,v= .map (some r)/\w.heap[r]? =some (.map es es.size)/\Hq b Ec es.toList
def Bu.n:Bu->Nat
 | .val τ=>τ.n| .any n _=>n|_=>1
def Bu.agg:Bu->Bool
 | .val τ=>τ.agg| .any _ a=>a|_=>false
def Bu.holds(B:Ah P)(a:Act)(w:AR)(H:HV)(v:AV):Bu->Prop
 | .val τ=>τ.ok H v| .any n g=>Shape n g v| .sm u=>v=Ae a u/\v.oneCell'=true| .buf E sz l=>Kk B w H E sz l v| .map _ _ Eb sz Ec=>RG B w H Eb sz Ec v
def Bu.owns(w:AR)(v:AV)(b:Nat):Bu->Prop
 | .buf _ _ _=>v.ownBlock=some b| .map _ _ _ _ Ec=>PZ w Ec v b|_=>False
def Iz(B:Ah P)(a:Act)(w:AR)(H:HV):A3 Bu->A3 AV->Prop
 |[],cs=>cs=[]|p::l,cs=>∃v rest,cs=v.cells.toList++rest/\Shape p.n p.agg v/\p.holds B a w H v/\Iz B a w H l rest
def GN(w:AR)(b:Nat):A3 Bu->A3 AV->Prop
 |[],_=>False|p::l,cs=>p.owns w (H6 p.agg (cs.take p.n).toArray) b\/GN w b l (cs.drop p.n)
def O4(w:AR):A3 Bu->A3 AV->Prop
 |[],_=>True|p::l,cs=>(∀b,p.owns w (H6 p.agg (cs.take p.n).toArray) b-> ¬GN w b l (cs.drop p.n))/\O4 w l (cs.drop p.n)
def AS.holds(B:Ah P)(a:Act)(w:AR)(H:HV)(v:AV):AS->Prop
 | .val τ=>τ.ok H v| .tup l=>∃vs,v= .tuple vs/\Ee H l vs.toList| .own T τ=>∃b x,v= .pointer (some ⟨b,0,none⟩)/\w.heap[b]? =some (.cells x.cells T (0,0))/\τ.ok H x/\H b=none/\B.EH b| .ptr t off=>∃b,Ae a t= .pointer (some ⟨b,0,none⟩)/\v= .pointer (some ⟨b,off,none⟩)| .opt c s=>(c=true->s.holds B a w H v)/\(c=false->v=undef)| .same t=>v=Ae a t| .KH t j sz=>∃b len cap,Ae a t= .slice (some ⟨b,0,none⟩) len cap/\v= .pointer (some ⟨b,j*sz,none⟩)| .bpf t off=>∃b len cap,Ae a t= .slice (some ⟨b,0,none⟩) len cap/\v= .pointer (some ⟨b,off,none⟩)| .gone=>True| .buf E sz l=>Kk B w H E sz l v| .O5 x E sz l=>Kk B w H E sz l x| .DA T _ ps=>∃b cs,v= .pointer (some ⟨b,0,none⟩)/\w.heap[b]? =some (.cells cs T (0,0))/\H b=none/\B.EH b/\Iz B a w H ps cs.toList/\O4 w ps cs.toList/\ ¬GN w b ps cs.toList| .H4 _ _ Eb sz Ec=>RG B w H Eb sz Ec v| .RV Eb sz l i=>∃x,v= .tuple #[x,.int .i64 i]/\Kk B w H Eb sz l x| .inv I=>I.p w H/\I.n=B.lo| .KP t x=>Ae a t=x| .E0 l rc=>w.heap[l]? =some (.loop rc)/\H l=none/\B.EH l| .vec k us=>v=ay a k us| .T7 t i=>∃x,Ae a t= .tuple #[x,.int .i64 i]| .F2 E pre post l=>∃g c cur xs,v= .slice (some ⟨g,pre.length,none⟩) l.length c/\w.heap[g]? =some (.cells cur E (0,0))/\cur.toList=pre++(xs++post)/\Db H l xs/\H g=none/\B.EH g| .win t j n sz=>∃g len cap c,Ae a t= .slice (some ⟨g,0,none⟩) len cap/\v= .slice (some ⟨g,j*sz,none⟩) n c| .NQ t i sz=>∃g o n c,Ae a t= .slice (some ⟨g,o,none⟩) n c/\v= .pointer (some ⟨g,o+i*sz,none⟩)| .I4 T E l=>∃b p r,v= .pointer (some ⟨b,0,none⟩)/\w.heap[b]? =some (.cells #[p,r] T (0,0))/\(p= .pointer none\/p= .pointer (some ⟨b,0,none⟩))/\H b=none/\B.EH b/\Kk B w H E 1 l r/\r.ownBlock≠some b| .JF L seen=>∃r m es sn,v= .pointer (some ⟨r,0,none⟩)/\w.heap[r]? =some (.mapIter (some m) es.size sn es.size)/\H r=none/\B.EH r/\H m=some (.map es es.size)/\okM H 0 L es.toList/\sn.toList=seen
def AS.owns(w:AR)(v:AV)(b:Nat):AS->Prop
 | .own _ _=>∃ad,v= .pointer (some ad)/\ad.block=b| .buf _ _ _=>v.ownBlock=some b| .O5 x _ _ _=>x.ownBlock=some b| .opt c s=>c=true/\s.owns w v b| .DA T _ ps=>∃c,v= .pointer (some ⟨c,0,none⟩)/\(b=c\/∃cs,w.heap[c]? =some (.cells cs T (0,0))/\GN w b ps cs.toList)| .H4 _ _ _ _ Ec=>PZ w Ec v b| .RV _ _ _ _=>∃x i,v= .tuple #[x,i]/\x.ownBlock=some b| .inv I=>I.M b| .E0 l _=>b=l| .JF _ _=>∃ad,v= .pointer (some ad)/\ad.block=b| .F2 _ _ _ _=>v.ownBlock=some b| .I4 T _ _=>∃c,v= .pointer (some ⟨c,0,none⟩)/\(b=c\/∃p r,w.heap[c]? =some (.cells #[p,r] T (0,0))/\r.ownBlock=some b)|_=>False
def RD:A3 Bu->A3 Nat
 |[]=>[]| .sm u::l=>u::RD l|_::l=>RD l
def AS.CD:AS->A3 Nat
 | .ptr t _=>[t]| .same t=>[t]| .KH t _ _=>[t]| .bpf t _=>[t]| .opt _ s=>s.CD| .DA _ _ ps=>RD ps| .KP t _=>[t]| .vec _ us=>us| .T7 t _=>[t]| .win t _ _ _=>[t]| .NQ t _ _=>[t]|_=>[]
abbrev Ctx:=A3<|Nat×AS
def Marks(B:Ah P)(w:AR)(H:HV):A3 Deferred->Prop
 |[]=>True|d::ds=>(∃D,d={target:= .collected D,args:= #[]}/\(B.rd=none->B.n<=D)/\w.heap[D]? =some (.deferred<|some [])/\H D=none/\∀e∈ds,e≠d)/\Marks B w H ds
def Marks.kept{B:Ah P}{w w':AR}{H H':HV}:∀{ds:A3 Deferred},Marks B w H ds->(∀D,({target:= .collected D,args:= #[]}:Deferred)∈ds->w.heap[D]? =some (.deferred<|some [])->H D=none->w'.heap[D]? =some (.deferred<|some [])/\H' D=none)->Marks B w' H' ds
 |[],_,_=>trivial|_::_,⟨⟨D,e,h1,h2,h3,h4⟩,r⟩,k=>⟨⟨D,e,h1,(k D (by simp[e]) h2 h3).1,(k D (by simp[e]) h2 h3).2,h4⟩,r.kept λD hD=>k D<|Br _ hD⟩
structure Sat(w0:Ah P)(H0:HV)(N:Nat)(Γ:Ctx)(a:Act)(w:AR)(H:HV):Prop where
 nd:Marks w0 w H (a.defers++w0.ds)
 sz:a.tmps.size=N
 below:Kept w0 w
 Fj:w0.Iv=false->∀r,r<w0.n-> ¬w0.X r->H r=H0 r
 sub:∀r o,H r=some o->w.heap[r]? =some o
 holds:∀p∈Γ,p.2.holds w0 a w H<|Ae a p.1
 sep:∀p∈Γ,∀q∈Γ,p.1≠q.1->∀b,p.2.owns w (Ae a p.1) b-> ¬q.2.owns w (Ae a q.1) b
 gl:LY P H
def Sat.weaken{Γ Aq:Ctx}(h:Sat w0 H0 N Γ a w H)(hs:∀p∈Aq,p∈Γ):Sat w0 H0 N Aq a w H:={h with holds:=λp hp=>h.holds p<|hs p hp,sep:=λp hp q hq=>h.sep p (hs p hp) q (hs q hq)}
theorem HN(sub:∀r o,H r=some o->w.heap[r]? =some o){r:Nat}{o:Obj}(h:H r=some o):r<w.heap.size:=by grind
structure Ext(w:AR)(H:HV)(w':AR)(H':HV):Prop where
 below:Fc w.heap.size w w'
 le:HV.le H H'
 Fj:∀r,r<w.heap.size->H' r=H r
 sub:∀r o,H' r=some o->w'.heap[r]? =some o
def Ext.refl{w:AR}{H:HV}(sub:∀r o,H r=some o->w.heap[r]? =some o):Ext w H w H:=⟨Fc.refl _ _,HV.le.refl _,λ_ _=>rfl,sub⟩
def Ext.far(h:Ext w H w' H')(n:Nat)(p:Nat->Prop):Far n p w H w' H':=⟨h.below.size,h.below.os,h.below.tape,h.below.output,h.below.drawn,h.le,λb hb _=>h.below.block b hb,λb hb _=>h.Fj b hb,h.sub⟩
def Ext.grown(sub:∀r o,H r=some o->w.heap[r]? =some o)(hb:Fc w.heap.size w w'):Ext w H w' (grow H w w'):=by
 refine⟨hb,?_,?_,?_⟩
 .intro r o h;have:=HN sub h;simp[grow,this,h]
 .intro r h;simp[grow,h]
 .intro r o h;by_cases hr:r<w.heap.size
  .simp[grow,hr] at h;rw[hb.block r hr];exact sub r o h
  .simpa[grow,hr] using h
def Ext.alloc{w:AR}{H:HV}(sub:∀r o,H r=some o->w.heap[r]? =some o)(o:Obj):Ext w H (w.alloc o) H:=by refine⟨Fc.alloc _,HV.le.refl _,λ_ _=>rfl,?_⟩;intro r x h;have:=HN sub h;rw[heap_alloc_old w o this];exact sub r x h
def bO(B:Ah P)(w:AR)(H:HV)(b:Nat):Prop:=b<w.heap.size/\B.EH b/\H b=none/\∃o,w.heap[b]? =some o/\aG o
def lt_of_heap{o:Obj}(h:w.heap[b]? =some o):b<w.heap.size:=(Sh.1 h).1
def I9{sz:Nat}(h:Kk B w H E sz l v)(hb:v.ownBlock=some b):bO B w H b:=by
 let⟨xs,hr,ho,hn⟩:=h;refine⟨(hr.lt b hb).2,(hn b hb).2,(hn b hb).1,?_⟩;obtain⟨_,(⟨e,_⟩|⟨g,cap,cur,e,_,hc,_⟩)⟩:=hr
 .subst e;simp[Value.ownBlock] at hb
 .subst e;simp[Value.ownBlock] at hb;subst hb;exact⟨_,hc,trivial⟩
def yG{B:Ah P}{w:AR}{H:HV}{Eb:Ap}{sz:Nat}{b:Nat}:∀{i:Nat} {l:A3 (Ty×DI)} {es:A3 MapEntry},KQ B w H Eb sz i l es->Hq b l es->bO B w H b
 |_,[],_,_,h=>by simp[Hq] at h|_,(_,_)::_,[],_,h=>by simp[Hq] at h
 |i,(k,e)::l,x::xs,⟨_,he,_,hr⟩,h=>by
  rcases h with h|h
  .cases e with|val τ=>exact h.elim|any=>exact h.elim|buf l=>exact I9 he h
  .exact yG hr h
def SS{sz:Nat}{Ec:A3 (Ty×DI)}(h:RG B w H Eb sz Ec v)(hb:PZ w Ec v b):bO B w H b:=by
 let⟨r,es,e,hr,hn,hm,ho,hs⟩:=h;subst e;rcases hb with hb|⟨r',I3,e',L0,hb⟩
 .cases hb;exact⟨lt_of_heap hr,hm,hn,_,hr,trivial⟩
 .cases e';rw[hr] at L0;cases L0;exact yG ho hb
def akX:∀{p:Bu},p.holds B a w H v->p.owns w v b->bO B w H b
 | .val _,_,h=>h.elim| .any _ _,_,h=>h.elim| .sm _,_,h=>h.elim| .buf _ _ _,k,h=>I9 k h| .map _ _ _ _ _,k,h=>SS k h
theorem QX{p:Bu}{rest:A3 AV}(h:Shape p.n p.agg v):H6 p.agg ((v.cells.toList++rest).take p.n).toArray=v/\(v.cells.toList++rest).drop p.n=rest:=by
 have hs:=h.size;constructor
 .have:(List.take p.n<|v.cells.toList++rest).toArray=v.cells:=by rw[<-hs,<-Fv,iJ]
  rw[this];exact h.eq.symm
 .grind
def QR{B:Ah P}{a:Act}{w:AR}{H:HV}{b:Nat}:∀{ps:A3 Bu} {cs:A3 AV},Iz B a w H ps cs->GN w b ps cs->bO B w H b
 |[],_,_,h=>h.elim
 |p::l,_,⟨v,rest,e,CW,hv,hr⟩,h=>by
  subst e;let⟨e1,e2⟩:=QX (rest:=rest) CW;rcases h with h|h
  .rw[e1] at h;exact akX hv h
  .rw[e2] at h;exact QR hr h
def AS.J9{B:Ah P}{a:Act}{w:AR}{H:HV}{v:AV}{b:Nat}:∀{s:AS},s.holds B a w H v->s.owns w v b->b<w.heap.size/\H b=none/\∃o,w.heap[b]? =some o/\aG o
 | .val _,_,h=>h.elim| .tup _,_,h=>h.elim| .ptr _ _,_,h=>h.elim| .same _,_,h=>h.elim| .KH _ _ _,_,h=>h.elim| .bpf _ _,_,h=>h.elim| .gone,_,h=>h.elim| .KP _ _,_,h=>h.elim| .vec _ _,_,h=>h.elim| .T7 _ _,_,h=>h.elim
 | .own T τ,⟨c,x,e,hb,hx,hn,hB⟩,⟨ad,e',h⟩=>by subst e;cases e';cases h;exact⟨lt_of_heap hb,hn,_,hb,trivial⟩
 | .buf _ _ _,h,k=>⟨(I9 h k).1,(I9 h k).2.2⟩| .O5 _ _ _ _,h,k=>⟨(I9 h k).1,(I9 h k).2.2⟩
 | .DA T _ ps,⟨c,cs,e,hb,hn,hB,ho,hs,hx⟩,⟨c',e',h⟩=>by
  subst e;cases e';rcases h with h|⟨ED,Bg,h⟩
  .subst h;exact⟨lt_of_heap hb,hn,_,hb,trivial⟩
  .rw[hb] at Bg;cases Bg;exact⟨(QR ho h).1,(QR ho h).2.2⟩
 | .H4 _ _ _ _ _,h,k=>⟨(SS h k).1,(SS h k).2.2⟩
 | .RV _ _ _ _,⟨x,e,h⟩,⟨x',i',e',k⟩=>by rw[e] at e';cases e';exact⟨(I9 h k).1,(I9 h k).2.2⟩
 | .opt c s,h,⟨hc,k⟩=>AS.J9 (s:=s) (h.1 hc) k| .inv I,⟨h,_⟩,k=>I.lt h k
 | .E0 l _,⟨h,h2,h3⟩,k=>by have k:b=l:=k;subst k;exact⟨lt_of_heap h,h2,_,h,trivial⟩
 | .JF _ _,⟨r,m,es,sn,e,h1,h2,_⟩,⟨ad,e',h⟩=>by subst e;cases e';cases h;exact⟨lt_of_heap h1,h2,_,h1,trivial⟩
 | .win _ _ _ _,_,h=>h.elim| .NQ _ _ _,_,h=>h.elim
 | .F2 _ _ _ _,⟨g,c,cur,xs,e,hb,_,_,hn,_⟩,h=>by subst e;cases h;exact⟨lt_of_heap hb,hn,_,hb,trivial⟩
 | .I4 _ _ _,⟨c,p,r,e,hb,_,hn,_,ho,_⟩,⟨c',e',h⟩=>by
  subst e;cases e';rcases h with h|⟨p',r',Bg,h⟩
  .subst h;exact⟨lt_of_heap hb,hn,_,hb,trivial⟩
  .have e2:=hb.symm.trans Bg;simp at e2;obtain⟨rfl,rfl⟩:=e2;exact⟨(I9 ho h).1,(I9 ho h).2.2⟩
def WD{sz:Nat}(h:Kk B w H E sz l v)(hle:HV.le H H')
 (hk:∀b,v.ownBlock=some b->w'.heap[b]? =w.heap[b]? /\H' b=H b):Kk B w' H' E sz l v:=by
 let⟨xs,⟨hl,hr⟩,ho,hn⟩:=h;refine⟨xs,⟨hl,?_⟩,QW hle ho,λb hb=>⟨by rw[(hk b hb).2];exact(hn b hb).1,(hn b hb).2⟩⟩;rcases hr with hr|⟨g,cap,cur,e,h1,hc,h2⟩
 .exact .inl hr
 .refine .inr ⟨g,cap,cur,e,h1,?_,h2⟩;rw[(hk g (by rw[e];rfl)).1];exact hc
def qN{B:Ah P}{w w':AR}{H H':HV}{Eb:Ap}{sz:Nat}(hle:HV.le H H'):∀{i:Nat} {l:A3 (Ty×DI)} {es:A3 MapEntry},KQ B w H Eb sz i l es->(∀b,Hq b l es->w'.heap[b]? =w.heap[b]? /\H' b=H b)->KQ B w' H' Eb sz i l es
 |_,[],[],_,_=>trivial|_,[],_::_,h,_=>h.elim|_,(_,_)::_,[],h,_=>h.elim
 |i,(k,e)::l,x::xs,⟨hk,he,hb,hr⟩,hx=>by refine⟨k.mono hle hk,?_,hb,qN hle hr λb h=>hx b<| .inr h⟩;cases e with|val τ=>exact τ.mono hle he|any=>trivial|buf l=>exact WD he hle λb h=>hx b<| .inl h
theorem aaQ{sz:Nat}{Ec:A3 (Ty×DI)}(h:RG B w H Eb sz Ec v)(hle:HV.le H H')
 (hk:∀b,PZ w Ec v b->w'.heap[b]? =w.heap[b]? /\H' b=H b):RG B w' H' Eb sz Ec v/\∀b,PZ w' Ec v b↔PZ w Ec v b:=by
 let⟨r,es,e,hr,hn,hm,ho,hs⟩:=h;subst e;have k0:=hk r<| .inl rfl
 have L0:w'.heap[r]? =some (.map es es.size):=by grind
 refine⟨⟨r,es,rfl,L0,by rw[k0.2];exact hn,hm,qN hle ho λb h=>hk b<| .inr ⟨r,es,rfl,hr,h⟩,hs⟩,λb=>?_⟩;constructor
 .rintro(h|⟨r1,es1,e1,h1,h2⟩)
  .exact .inl h
  .cases e1;rw[L0] at h1;cases h1;exact .inr ⟨r,es,rfl,hr,h2⟩
 .rintro(h|⟨r1,es1,e1,h1,h2⟩)
  .exact .inl h
  .cases e1;rw[hr] at h1;cases h1;exact .inr ⟨r,es,rfl,L0,h2⟩
def akY(hle:HV.le H H'):∀{p:Bu},p.holds B a w H v->(∀b,p.owns w v b->w'.heap[b]? =w.heap[b]? /\H' b=H b)->p.holds B a w' H' v/\∀b,p.owns w' v b↔p.owns w v b
 | .val τ,h,_=>⟨τ.mono hle h,λ_=>Iff.rfl⟩| .any _ _,h,_=>⟨h,λ_=>Iff.rfl⟩| .sm _,h,_=>⟨h,λ_=>Iff.rfl⟩| .buf _ _ _,h,k=>⟨WD h hle k,λ_=>Iff.rfl⟩| .map _ _ _ _ _,h,k=>aaQ h hle k
def gw{B:Ah P}{a:Act}{w w':AR}{H H':HV}(hle:HV.le H H'):∀{ps:A3 Bu} {cs:A3 AV},Iz B a w H ps cs->(∀b,GN w b ps cs->w'.heap[b]? =w.heap[b]? /\H' b=H b)->Iz B a w' H' ps cs/\(∀b,GN w' b ps cs↔GN w b ps cs)/\(O4 w ps cs->O4 w' ps cs)
 |[],_,h,_=>⟨h,λ_=>Iff.rfl,λh=>h⟩
 |p::l,_,⟨v,rest,e,CW,hv,hr⟩,k=>by
  subst e;let⟨e1,e2⟩:=QX (rest:=rest) CW;simp only[GN,O4,e1,e2] at k⊢;let⟨h1,h2⟩:=akY hle hv λb h=>k b<| .inl h
  let⟨h3,h4,h5⟩:=gw hle hr λb h=>k b<| .inr h
  refine⟨⟨v,rest,rfl,CW,h1,h3⟩,λb=>or_congr (h2 b)<|h4 b,λ⟨a1,a2⟩=>⟨λb hb=>?_,h5 a2⟩⟩;rw[h4];exact a1 b<|(h2 b).1 hb
def AS.F1:AS->Bool
 | .inv _=>true| .opt _ s=>s.F1|_=>false
theorem AS.Vl{B:Ah P}{a:Act}{w w':AR}{H H':HV}{v:AV}{n:Nat}:∀{s:AS},s.holds B a w H v->(s.F1=true->n=B.lo)->Far n (λb=>s.owns w v b) w H w' H'->s.holds B a w' H' v/\∀b,s.owns w' v b↔s.owns w v b
 | .val τ,h,_,F=>⟨τ.mono F.le h,λ_=>Iff.rfl⟩| .tup _,⟨vs,e,k⟩,_,F=>⟨⟨vs,e,Yw F.le k⟩,λ_=>Iff.rfl⟩
 | .own T τ,⟨b,x,e,hb,hx,hn,hB⟩,_,F=>by subst e;have hlt:=lt_of_heap hb;have ho:(AS.own T τ).owns w (.pointer<|some ⟨b,0,none⟩) b:=⟨_,rfl,rfl⟩;exact⟨⟨b,x,rfl,by rw[F.E9 b hlt<| .inr ho];exact hb,τ.mono F.le hx,by rw[F.view b hlt<| .inr ho];exact hn,hB⟩,λ_=>Iff.rfl⟩
 | .ptr _ _,h,_,_=>⟨h,λ_=>Iff.rfl⟩
 | .opt c s,h,hi,F=>by
  cases c with
  |false=>exact⟨⟨(λe=>by cases e),h.2⟩,λb=>by simp[AS.owns]⟩
  |true=>
   let⟨h1,h2⟩:=Vl (s:=s) (h.1 rfl) hi<|F.imp (BQ _) λb hb=>⟨rfl,hb⟩
   exact⟨⟨λ_=>h1,h.2⟩,λb=>by simp[AS.owns,h2]⟩
 | .same _,h,_,_=>⟨h,λ_=>Iff.rfl⟩| .KH _ _ _,h,_,_=>⟨h,λ_=>Iff.rfl⟩| .bpf _ _,h,_,_=>⟨h,λ_=>Iff.rfl⟩| .gone,h,_,_=>⟨h,λ_=>Iff.rfl⟩| .KP _ _,h,_,_=>⟨h,λ_=>Iff.rfl⟩| .vec _ _,h,_,_=>⟨h,λ_=>Iff.rfl⟩| .T7 _ _,h,_,_=>⟨h,λ_=>Iff.rfl⟩| .buf _ _ _,h,_,F=>⟨WD h F.le λb hb=>⟨F.E9 b (I9 h hb).1<| .inr hb,F.view b (I9 h hb).1<| .inr hb⟩,λ_=>Iff.rfl⟩| .O5 _ _ _ _,h,_,F=>⟨WD h F.le λb hb=>⟨F.E9 b (I9 h hb).1<| .inr hb,F.view b (I9 h hb).1<| .inr hb⟩,λ_=>Iff.rfl⟩
 | .DA T g ps,⟨c,cs,e,hb,hn,hB,ho,hs,hx⟩,_,F=>by
  subst e;have hlt:=lt_of_heap hb;have oc:(AS.DA T g ps).owns w (.pointer<|some ⟨c,0,none⟩) c:=⟨c,rfl,.inl rfl⟩;have op:∀b,GN w b ps cs.toList->(AS.DA T g ps).owns w (.pointer<|some ⟨c,0,none⟩) b:=λb h=>⟨c,rfl,.inr ⟨cs,hb,h⟩⟩
  have Bg:w'.heap[c]? =some (.cells cs T (0,0)):=by rw[F.E9 c hlt<| .inr oc];exact hb
  let⟨h1,h2,h3⟩:=gw F.le ho λb h=>⟨F.E9 b (QR ho h).1<| .inr<|op b h,F.view b (QR ho h).1<| .inr<|op b h⟩
  refine⟨⟨c,cs,rfl,Bg,by rw[F.view c hlt<| .inr oc];exact hn,hB,h1,h3 hs,by rw[h2];exact hx⟩,λb=>?_⟩;constructor
  .rintro⟨c',e',h⟩;cases e';rcases h with h|⟨ED,FR,h⟩
   .grind
   .grind
  .rintro⟨c',e',h⟩;cases e';rcases h with h|⟨ED,FR,h⟩
   .exact⟨c,rfl,.inl h⟩
   .rw[hb] at FR;cases FR;exact⟨c,rfl,.inr ⟨cs,Bg,(h2 b).2 h⟩⟩
 | .H4 _ _ _ _ _,h,_,F=>aaQ h F.le λb hb=>⟨F.E9 b (SS h hb).1<| .inr hb,F.view b (SS h hb).1<| .inr hb⟩
 | .RV _ _ _ _,⟨x,e,h⟩,_,F=>by subst e;exact⟨⟨x,rfl,WD h F.le λb hb=>⟨F.E9 b (I9 h hb).1<| .inr ⟨x,_,rfl,hb⟩,F.view b (I9 h hb).1<| .inr ⟨x,_,rfl,hb⟩⟩⟩,λ_=>Iff.rfl⟩
 | .E0 l rc,⟨h,h2,h3⟩,_,F=>⟨⟨by rw[F.E9 l (lt_of_heap h)<| .inr rfl];exact h,by rw[F.view l (lt_of_heap h)<| .inr rfl];exact h2,h3⟩,λ_=>Iff.rfl⟩
 | .JF L seen,⟨r,m,es,sn,e,h1,h2,h3,h4,h5,h6⟩,_,F=>by subst e;have ho:(AS.JF L seen).owns w (.pointer<|some ⟨r,0,none⟩) r:=⟨_,rfl,rfl⟩;exact⟨⟨r,m,es,sn,rfl,by rw[F.E9 r (lt_of_heap h1)<| .inr ho];exact h1,by rw[F.view r (lt_of_heap h1)<| .inr ho];exact h2,h3,F.le _ _ h4,pC F.le h5,h6⟩,λ_=>Iff.rfl⟩
 | .win _ _ _ _,h,_,_=>⟨h,λ_=>Iff.rfl⟩| .NQ _ _ _,h,_,_=>⟨h,λ_=>Iff.rfl⟩
 | .F2 E pre post l,⟨g,c,cur,xs,e,hb,hc,ho,hn,hB⟩,_,F=>by subst e;have oc:(AS.F2 E pre post l).owns w (.slice (some ⟨g,pre.length,none⟩) l.length c) g:=rfl;exact⟨⟨g,c,cur,xs,rfl,by rw[F.E9 g (lt_of_heap hb)<| .inr oc];exact hb,hc,QW F.le ho,by rw[F.view g (lt_of_heap hb)<| .inr oc];exact hn,hB⟩,λ_=>Iff.rfl⟩
 | .I4 T E l,⟨c,p,r,e,hb,hp,hn,hB,ho,hx⟩,_,F=>by
  subst e;have hlt:=lt_of_heap hb;have oc:(AS.I4 T E l).owns w (.pointer<|some ⟨c,0,none⟩) c:=⟨c,rfl,.inl rfl⟩;have op:∀b,r.ownBlock=some b->(AS.I4 T E l).owns w (.pointer<|some ⟨c,0,none⟩) b:=λb h=>⟨c,rfl,.inr ⟨p,r,hb,h⟩⟩
  have Bg:w'.heap[c]? =some (.cells #[p,r] T (0,0)):=by rw[F.E9 c hlt<| .inr oc];exact hb
  have h1:=WD ho F.le λb h=>⟨F.E9 b (I9 ho h).1<| .inr<|op b h,F.view b (I9 ho h).1<| .inr<|op b h⟩
  refine⟨⟨c,p,r,rfl,Bg,hp,by rw[F.view c hlt<| .inr oc];exact hn,hB,h1,hx⟩,λb=>?_⟩;constructor
  .rintro⟨c',e',h⟩;cases e';rcases h with h|⟨p',r',FR,h⟩
   .grind
   .grind
  .rintro⟨c',e',h⟩;cases e';rcases h with h|⟨p',r',FR,h⟩
   .exact⟨c,rfl,.inl h⟩
   .exact⟨c,rfl,.inr ⟨p',r',by rw[Bg,<-hb];exact FR,h⟩⟩
 | .inv I,⟨h,e⟩,hi,F=>by
  have:n=I.n:=by rw[hi rfl,e]
  exact⟨⟨I.step h<|this▸F,e⟩,λ_=>Iff.rfl⟩
def AS.Yl{s:AS}(h:s.holds B a w H v)(F:Far B.lo (λb=>s.owns w v b) w H w' H'):s.holds B a w' H' v/\∀b,s.owns w' v b↔s.owns w v b:=AS.Vl h (λ_=>rfl) F
def AS.aja(he:Ext w H w' H'){s:AS}(h:s.holds B a w H v):s.holds B a w' H' v:=(AS.Yl h<|he.far _ _).1
def AS.gF(he:Ext w H w' H'){s:AS}(h:s.holds B a w H v)(b:Nat):s.owns w' v b↔s.owns w v b:=(AS.Yl h<|he.far _ _).2 b
def PL{t:Nat}(h:d≠t):Ae (a.put (some d) v) t=Ae a t:=by simp[Ae,Act.put,Array.getElem?_setIfInBounds_ne h]
def Vf(h:d<a.tmps.size):Ae (a.put (some d) v) d=v:=by simp[Ae,Act.put,h]
def U9{B:Ah P}{a a':Act}{w:AR}{H:HV}:∀{ps:A3 Bu} {cs:A3 AV},(∀t∈RD ps,Ae a' t=Ae a t)->Iz B a w H ps cs->Iz B a' w H ps cs
 |[],_,_,h=>h
 |p::l,_,e,⟨v,rest,e1,CW,hv,hr⟩=>by cases p with|sm u=>exact⟨v,rest,e1,CW,⟨by rw[e u (by simp[RD])];exact hv.1,hv.2⟩,U9 (λt ht=>e t (by simp[RD,ht])) hr⟩|val _=>exact⟨v,rest,e1,CW,hv,U9 e hr⟩|any _ _=>exact⟨v,rest,e1,CW,hv,U9 e hr⟩|buf _ _ _=>exact⟨v,rest,e1,CW,hv,U9 e hr⟩|map _ _ _ _ _=>exact⟨v,rest,e1,CW,hv,U9 e hr⟩
def AS.PR{B:Ah P}{a a':Act}{w:AR}{H:HV}{v:AV}:∀{s:AS},(∀t∈s.CD,Ae a' t=Ae a t)->s.holds B a w H v->s.holds B a' w H v
 | .val _,_,h=>h| .tup _,_,h=>h| .own _ _,_,h=>h| .ptr t off,e,⟨b,h1,h2⟩=>⟨b,by rw[e t (by simp[AS.CD])];exact h1,h2⟩| .opt c s,e,h=>⟨λhc=>PR (s:=s) e<|h.1 hc,h.2⟩| .same t,e,h=>by show v=_;rw[e t (by simp[AS.CD])];exact h| .KH t _ _,e,⟨b,len,cap,h1,h2⟩=>⟨b,len,cap,by rw[e t (by simp[AS.CD])];exact h1,h2⟩| .bpf t _,e,⟨b,len,cap,h1,h2⟩=>⟨b,len,cap,by rw[e t (by simp[AS.CD])];exact h1,h2⟩| .gone,_,h=>h| .buf _ _ _,_,h=>h| .O5 _ _ _ _,_,h=>h| .DA _ _ _,e,⟨c,cs,h1,h2,h3,h4,h5,h6⟩=>⟨c,cs,h1,h2,h3,h4,U9 e h5,h6⟩| .H4 _ _ _ _ _,_,h=>h| .RV _ _ _ _,_,h=>h| .inv _,_,h=>h| .T7 t i,e,⟨x,h⟩=>⟨x,by rw[e t (by simp[AS.CD])];exact h⟩
 | .vec k us,e,h=>by have:us.map (Ae a')=us.map (Ae a):=iZ e;show v=ay a' k us;rw[show ay a' k us=ay a k us by simp[ay,this]];exact h
 | .KP t _,e,h=>by show Ae a' t=_;rw[e t (by simp[AS.CD])];exact h| .E0 _ _,_,h=>h| .JF _ _,_,h=>h| .I4 _ _ _,_,h=>h| .F2 _ _ _ _,_,h=>h| .win t _ _ _,e,⟨g,len,cap,c,h1,h2⟩=>⟨g,len,cap,c,by rw[e t (by simp[AS.CD])];exact h1,h2⟩| .NQ t _ _,e,⟨g,o,n,c,h1,h2⟩=>⟨g,o,n,c,by rw[e t (by simp[AS.CD])];exact h1,h2⟩
def Jc(d:Nat)(Γ:Ctx):Bool:=Γ.all λp=>p.1 !=d&& !p.2.CD.contains d
def YU{A:Ctx}(h:Jc d A=true):∀p∈A,p.1≠d/\d∉p.2.CD:=by intro p hp;have:=Dr.1 h p hp;simpa using this
def put_defers{d:A9 Tmp}:(a.put d v).defers=a.defers:=by cases d<;>rfl
theorem wS{Γ:Ctx}(h:Sat w0 H0 N Γ a w H){s:AS}(hd:d<N)(hf:Jc d Γ=true)(hl:d∉s.CD)
 (hs:s.holds w0 a w H v)(hfr:∀b,s.owns w v b->∀q∈Γ,¬q.2.owns w (Ae a q.1) b):Sat w0 H0 N ((d,s)::Γ) (a.put (some d) v) w H:=by
 have hd':d<a.tmps.size:=h.sz▸hd;have KE:∀p∈Γ,d≠p.1/\d∉p.2.CD:=λp hp=>⟨λe=>(YU hf p hp).1 e.symm,(YU hf p hp).2⟩
 refine⟨by rw[put_defers];exact h.nd,by simp[Act.put,h.sz],h.below,h.Fj,h.sub,?_,?_,h.gl⟩
 .intro p hp;rcases Am.1 hp with e|hp
  .subst e;simp[Vf hd'];exact AS.PR (λt ht=>PL<|λe=>hl<|e▸ht) hs
  .let⟨h1,h2⟩:=KE p hp;rw[PL h1];exact AS.PR (λt ht=>PL<|λe=>h2<|e▸ht)<|h.holds p hp
 .intro p hp q hq hne b hb Bg;rcases Am.1 hp with e|hp<;>rcases Am.1 hq with e'|hq
  .grind
  .subst e;simp[Vf hd'] at hb;rw[PL (KE q hq).1] at Bg;exact hfr b hb q hq Bg
  .subst e';simp[Vf hd'] at Bg;rw[PL (KE p hp).1] at hb;exact hfr b Bg p hp hb
  .rw[PL (KE p hp).1] at hb;rw[PL (KE q hq).1] at Bg;exact h.sep p hp q hq hne b hb Bg
def fi{Γ:Ctx}(h:Sat w0 H0 N Γ a w H)(he:Ext w H w' H'):Sat w0 H0 N Γ a w' H':=by
 refine⟨h.nd.kept λD _ h1 h2=>⟨by rw[he.below.block D<|lt_of_heap h1];exact h1,by rw[he.Fj D<|lt_of_heap h1];exact h2⟩,h.sz,h.below.step he.below,λhv r hr hx=>?_,he.sub,?_,?_,h.gl.mono he.le⟩
 .rw[he.Fj r<|KA hr h.below.size,h.Fj hv r hr hx]
 .intro p hp;exact AS.aja he<|h.holds p hp
 .intro p hp q hq hne b hb Bg;exact h.sep p hp q hq hne b ((AS.gF he (h.holds p hp) b).1 hb)<|(AS.gF he (h.holds q hq) b).1 Bg
def SM{Γ:Ctx}(h:Sat w0 H0 N Γ a w H)(he:Ext w H w' H')
 {s:AS}(hd:d<N)(hf:Jc d Γ=true)(hl:d∉s.CD)(hs:s.holds w0 a w' H' v)(hfr:∀b,s.owns w' v b->w.heap.size<=b):Sat w0 H0 N ((d,s)::Γ) (a.put (some d) v) w' H':=
 wS (fi h he) hd hf hl hs λb hb q hq Bg=>by have h1:=hfr b hb;have h2:=(AS.J9 (h.holds q hq)<|(AS.gF he (h.holds q hq) b).1 Bg).1;omega
def AS.free:AS->Bool
 | .own _ _=>false| .buf _ _ _=>false| .O5 _ _ _ _=>false| .opt _ s=>s.free| .DA _ _ _=>false| .H4 _ _ _ _ _=>false| .RV _ _ _ _=>false| .inv _=>false| .E0 _ _=>false| .JF _ _=>false| .I4 _ _ _=>false| .F2 _ _ _ _=>false|_=>true
def AS.free_spec{w:AR}{v:AV}{b:Nat}:∀{s:AS},s.free=true-> ¬s.owns w v b
 | .val _,_,h=>h| .tup _,_,h=>h| .ptr _ _,_,h=>h| .same _,_,h=>h| .KH _ _ _,_,h=>h| .bpf _ _,_,h=>h| .gone,_,h=>h| .KP _ _,_,h=>h| .vec _ _,_,h=>h| .T7 _ _,_,h=>h| .opt c s,e,h=>AS.free_spec (s:=s) e h.2| .own _ _,e,_=>by cases e| .buf _ _ _,e,_=>by cases e| .O5 _ _ _ _,e,_=>by cases e| .DA _ _ _,e,_=>by cases e| .H4 _ _ _ _ _,e,_=>by cases e| .RV _ _ _ _,e,_=>by cases e| .inv _,e,_=>by cases e| .E0 _ _,e,_=>by cases e| .JF _ _,e,_=>by cases e| .I4 _ _ _,e,_=>by cases e| .F2 _ _ _ _,e,_=>by cases e| .win _ _ _ _,_,h=>h| .NQ _ _ _,_,h=>h
theorem Vy{Γ Aq:Ctx}{ds:A3 Deferred}(hs:Sat w0 H0 N Γ a w H)(hk:Kept w0 w')(hdr:H9 w w')
 (hold:w0.Iv=false->∀r,r<w0.n-> ¬w0.X r->H' r=H r)(hsz:w.heap.size<=w'.heap.size)(hle:HV.le H H')(BI:∀r o,H' r=some o->w'.heap[r]? =some o)
 (G0:(∃p∈Aq,p.2.F1=true)->∀b,b<w.heap.size->b<w0.lo->w'.heap[b]? =w.heap[b]? /\H' b=H b)
 (hp:∀p∈Aq,p∈Γ/\∀b,p.2.owns w (Ae a p.1) b->w'.heap[b]? =w.heap[b]? /\H' b=H b)(hm:Marks w0 w' H' (ds++w0.ds)):Sat w0 H0 N Aq {a with defers:=ds} w' H':=by
 have far:∀p∈Aq,Far (if p.2.F1 then w0.lo else 0) (λb=>p.2.owns w (Ae a p.1) b) w H w' H':=λp h=>by
  have key:∀b,b<w.heap.size->(b<(if p.2.F1 then w0.lo else 0)\/p.2.owns w (Ae a p.1) b)->w'.heap[b]? =w.heap[b]? /\H' b=H b:=λb hb h1=>by
   rcases h1 with h1|h1
   .cases hi:p.2.F1 with|true=>rw[hi,if_pos rfl] at h1;exact G0 ⟨p,h,hi⟩ b hb h1|false=>rw[hi] at h1;simp at h1
   .grind
  exact⟨hsz,hk.os.trans hs.below.os.symm,hk.tape.trans hs.below.tape.symm,hk.output.trans hs.below.output.symm,hdr,hle,λb hb h1=>(key b hb h1).1,λb hb h1=>(key b hb h1).2,BI⟩
 have hh:∀p∈Aq,p.2.holds w0 a w' H' (Ae a p.1)/\∀b,p.2.owns w' (Ae a p.1) b↔p.2.owns w (Ae a p.1) b:=λp h=>AS.Vl (hs.holds p (hp p h).1) (λhi=>by rw[hi];rfl)<|far p h
 refine⟨hm,hs.sz,hk,λhv r hr hx=>(hold hv r hr hx).trans<|hs.Fj hv r hr hx,BI,?_,?_,hs.gl.mono hle⟩
 .exact λp h=>AS.PR (a:=a) (λ_ _=>rfl) (hh p h).1
 .exact λp h q h' hne b hb Bg=>hs.sep p (hp p h).1 q (hp q h').1 hne b (((hh p h).2 b).1 hb)<|((hh q h').2 b).1 Bg
theorem Vz{sz:Nat}(h:Kk B w H E sz l v)(hm:∀b,v.ownBlock=some b->B'.EH b):Kk B' w H E sz l v:=by grind [Kk,Ah.EH]
def zK{B B':Ah P}{w:AR}{H:HV}{Eb:Ap}{sz:Nat}:∀{i:Nat} {l:A3 (Ty×DI)} {es:A3 MapEntry},KQ B w H Eb sz i l es->(∀b,Hq b l es->B'.EH b)->KQ B' w H Eb sz i l es
 |_,[],[],_,_=>trivial|_,[],_::_,h,_=>h.elim|_,(_,_)::_,[],h,_=>h.elim
 |i,(k,e)::l,x::xs,⟨hk,he,hb,hr⟩,hx=>by refine⟨hk,?_,hb,zK hr λb h=>hx b<| .inr h⟩;cases e with|val τ=>exact he|any=>trivial|buf l=>exact Vz he λb h=>hx b<| .inl h
def zV{sz:Nat}{Ec:A3 (Ty×DI)}(h:RG B w H Eb sz Ec v)(hm:∀b,PZ w Ec v b->B'.EH b):RG B' w H Eb sz Ec v:=by let⟨r,es,e,hr,hn,_,ho,hs⟩:=h;subst e;exact⟨r,es,rfl,hr,hn,hm r<| .inl rfl,zK ho λb h=>hm b<| .inr ⟨r,es,rfl,hr,h⟩,hs⟩
def zI{B B':Ah P}{a:Act}{w:AR}{H:HV}:∀{ps:A3 Bu} {cs:A3 AV},Iz B a w H ps cs->(∀b,GN w b ps cs->B'.EH b)->Iz B' a w H ps cs
 |[],_,h,_=>h
 |p::l,_,⟨v,rest,e,CW,hv,hr⟩,k=>by subst e;let⟨e1,e2⟩:=QX (rest:=rest) CW;simp[GN,e1,e2] at k;refine⟨v,rest,rfl,CW,?_,zI hr λb h=>k b<| .inr h⟩;cases p with|val _=>exact hv|any _ _=>exact hv|sm _=>exact hv|buf _ _ _=>exact Vz hv λb h=>k b<| .inl h|map _ _ _ _ _=>exact zV hv λb h=>k b<| .inl h
def AS.S5{B B':Ah P}{a:Act}{w:AR}{H:HV}{v:AV}:∀{s:AS},s.F1=false->s.holds B a w H v->(∀b,s.owns w v b->B'.EH b)->s.holds B' a w H v
 | .val _,_,h,_=>h| .tup _,_,h,_=>h| .own _ _,_,⟨b,x,e,h1,h2,h3,_⟩,k=>⟨b,x,e,h1,h2,h3,k b ⟨_,e,rfl⟩⟩| .ptr _ _,_,h,_=>h| .opt c s,hi,h,k=>⟨λhc=>AS.S5 (s:=s) hi (h.1 hc) λb hb=>k b ⟨hc,hb⟩,h.2⟩| .same _,_,h,_=>h| .KH _ _ _,_,h,_=>h| .bpf _ _,_,h,_=>h| .gone,_,h,_=>h| .buf _ _ _,_,h,k=>Vz h k| .O5 _ _ _ _,_,h,k=>Vz h k| .DA _ _ _,_,⟨c,cs,e,hb,hn,_,ho,hs,hx⟩,k=>⟨c,cs,e,hb,hn,k c ⟨c,e,.inl rfl⟩,zI ho λb h=>k b ⟨c,e,.inr ⟨cs,hb,h⟩⟩,hs,hx⟩| .H4 _ _ _ _ _,_,h,k=>zV h k| .RV _ _ _ _,_,⟨x,e,h⟩,k=>⟨x,e,Vz h λb hb=>k b ⟨x,_,e,hb⟩⟩| .inv _,hi,_,_=>by cases hi| .KP _ _,_,h,_=>h| .vec _ _,_,h,_=>h| .T7 _ _,_,h,_=>h| .E0 l _,_,⟨h1,h2,_⟩,k=>⟨h1,h2,k l rfl⟩| .JF _ _,_,⟨r,m,es,sn,e,h1,h2,_,h4⟩,k=>⟨r,m,es,sn,e,h1,h2,k r ⟨_,e,rfl⟩,h4⟩| .win _ _ _ _,_,h,_=>h| .NQ _ _ _,_,h,_=>h| .F2 _ _ _ _,_,⟨g,c,cur,xs,e,hb,hc,ho,hn,_⟩,k=>⟨g,c,cur,xs,e,hb,hc,ho,hn,k g (by rw[e];rfl)⟩| .I4 _ _ _,_,⟨c,p,r,e,hb,hp,hn,_,ho,hx⟩,k=>⟨c,p,r,e,hb,hp,hn,k c ⟨c,e,.inl rfl⟩,Vz ho λb h=>k b ⟨c,e,.inr ⟨p,r,hb,h⟩⟩,hx⟩
def AS.PT{B:Ah P}{a:Act}{w:AR}{H:HV}{v:AV}{b:Nat}:∀{s:AS},s.F1=false->s.holds B a w H v->s.owns w v b->B.EH b
 | .val _,_,_,h=>h.elim| .tup _,_,_,h=>h.elim| .ptr _ _,_,_,h=>h.elim| .same _,_,_,h=>h.elim| .KH _ _ _,_,_,h=>h.elim| .bpf _ _,_,_,h=>h.elim| .gone,_,_,h=>h.elim| .KP _ _,_,_,h=>h.elim| .vec _ _,_,_,h=>h.elim| .T7 _ _,_,_,h=>h.elim
 | .own T τ,_,⟨c,x,e,hb,hx,hn,hB⟩,⟨ad,e',h⟩=>by subst e;cases e';cases h;exact hB
 | .buf _ _ _,_,h,k=>(I9 h k).2.1| .O5 _ _ _ _,_,h,k=>(I9 h k).2.1
 | .DA T _ ps,_,⟨c,cs,e,hb,hn,hB,ho,hs,hx⟩,⟨c',e',h⟩=>by
  subst e;cases e';rcases h with h|⟨ED,Bg,h⟩
  .subst h;exact hB
  .rw[hb] at Bg;cases Bg;exact(QR ho h).2.1
 | .H4 _ _ _ _ _,_,h,k=>(SS h k).2.1
 | .RV _ _ _ _,_,⟨x,e,h⟩,⟨x',i',e',k⟩=>by rw[e] at e';cases e';exact(I9 h k).2.1
 | .opt c s,hi,h,⟨hc,k⟩=>AS.PT (s:=s) hi (h.1 hc) k| .inv _,hi,_,_=>by cases hi
 | .E0 l _,_,⟨_,_,h3⟩,k=>by have k:b=l:=k;subst k;exact h3
 | .JF _ _,_,⟨r,m,es,sn,e,_,_,h3,_⟩,⟨ad,e',h⟩=>by subst e;cases e';cases h;exact h3
 | .win _ _ _ _,_,_,h=>h.elim| .NQ _ _ _,_,_,h=>h.elim
 | .F2 _ _ _ _,_,⟨g,c,cur,xs,e,hb,_,_,hn,hB⟩,h=>by subst e;cases h;exact hB
 | .I4 _ _ _,_,⟨c,p,r,e,hb,_,_,hB,ho,_⟩,⟨c',e',h⟩=>by
  subst e;cases e';rcases h with h|⟨p',r',Bg,h⟩
  .subst h;exact hB
  .have e2:=hb.symm.trans Bg;simp at e2;obtain⟨rfl,rfl⟩:=e2;exact(I9 ho h).2.1
end
section
variable[D:DR]
variable{d:Nat}
def look:Ctx->Nat->A9 AS
 |[],_=>none
 |(k,s)::Γ,t=>match Nat.beq k t with|true=>some s|false=>look Γ t
def BD:∀{Γ:Ctx} {t:Nat} {s:AS},look Γ t=some s->(t,s)∈Γ
 |[],_,_,h=>by simp[look] at h
 |(k,s')::Γ,t,s,h=>by
  simp[look] at h;cases hb:Nat.beq k t
  .rw[hb] at h;exact Br _<|BD h
  .rw[hb] at h;have:=EF hb;simp at h;subst this;subst h;simp
def AS.LV(s:AS)(d:Nat):Bool:=s.CD.any λt=>Nat.beq t d
def Yc{s:AS}(h:s.LV d=false):d∉s.CD:=λhm=>by have:=Zg.1 h d hm;simp at this
theorem aht{s:AS}(h:d∉s.CD):s.LV d=false:=by(simp_all [AS.CD,AS.LV]<;>grind)
def del(d:Nat):Ctx->Ctx
 |[]=>[]|p::Γ=>bif Nat.beq p.1 d||p.2.LV d then del d Γ else p::del d Γ
def Mb{d:Nat}:∀{Γ:Ctx},∀p∈del d Γ,p∈Γ
 |[],p,h=>by simp[del] at h
 |q::Γ,p,h=>by
  simp[del] at h;cases hb:(Nat.beq q.1 d||q.2.LV d)
  .rw[hb] at h;rcases Am.1 h with e|h
   .simp[e]
   .exact Br _<|Mb p h
  .rw[hb] at h;exact Br _<|Mb p h
def PX{d:Nat}:∀{Γ:Ctx},Jc d (del d Γ)=true
 |[]=>rfl
 |q::Γ=>by
  simp[del];cases hb:(Nat.beq q.1 d||q.2.LV d)
  .simp[B8];have ih:=PX (d:=d) (Γ:=Γ);simp[Jc,OU,C9] at ih⊢;refine⟨?_,ih⟩;simp at hb;refine⟨by simpa using Nat.ne_of_beq_eq_false hb.1,?_⟩;simpa using Yc hb.2
  .simpa using PX (d:=d) (Γ:=Γ)
inductive EU(Γ:Ctx):A3 Nat->Ctx->Prop where
 |nil:EU Γ [] []|cons {t:Nat} {s:AS} {ts:A3 Nat} {Aq:Ctx} (h:look Γ t=some s) (r:EU Γ ts Aq):EU Γ (t::ts) ((t,s)::Aq)
def EU.sub{Γ:Ctx}{ts:A3 Nat}{Aq:Ctx}(h:EU Γ ts Aq):∀p∈Aq,p∈Γ:=by
 induction h with
 |nil=>simp
 |cons h _ ih=>
  intro p hp;rcases Am.1 hp with e|hp
  .subst e;exact BD h
  .exact ih p hp
theorem EU.keys{Γ:Ctx}{ts:A3 Nat}{Aq:Ctx}(h:EU Γ ts Aq):∀p∈Aq,p.1∈ts:=by
 induction h with
 |nil=>simp
 |cons h _ ih=>
  intro p hp;rcases Am.1 hp with e|hp
  .subst e;simp
  .grind
def B0(P:CP)(Γ:Ctx)(o:Oper)(s:AS):Prop:=
 ∀(w0:Ah P) (H0:HV) (N:Nat) (a:Act) (w:AR) (H:HV),Sat w0 H0 N Γ a w H->∀(K:Act->AR->Prop) (Q:Exit->Act->AR->Prop),(∀v w' H',Ext w H w' H'->s.holds w0 a w' H' v->(∀b,s.owns w' v b->w.heap.size<=b)->K (a.put o.dst v) w')->o.wp P a w K Q
def Step(P:CP)(N:Nat)(ops:BG Oper)(o:Oper)(Γ Aq:Ctx):Prop:=
 ∀(w0:Ah P) (H0:HV) (a:Act) (w:AR) (H:HV),Sat w0 H0 N Γ a w H->∀(K:Act->AR->Prop) (Q:Exit->Act->AR->Prop),(∀a' w' H',Sat w0 H0 N Aq a' w' H'->K a' w')->if Region.wanted o (yielded ops a.tmps) then o.wp P a w K Q else K (a.put o.dst undef) w
end
section
variable[D:DR]
variable{P:Program}{N:Nat}{ops:Array Oper}{Γ Aq Er Tq:Ctx}
variable{d:Nat}{s:AS}{j dj:Nat}{b:Bool}{H0:HV}{a:Act}{H:HV}{e want:Bool}
def Step.pure{o:Oper}(h:B0 P Γ o s)(hg:o.guard=none)(hd:o.dst=some d)(hN:d<N)(hf:Jc d Γ=true)(hl:s.LV d=false):Step P N ops o Γ ((d,s)::Γ):=by
 intro w0 H0 a w H hs K Q k;simp[Region.wanted,hg,if_true];refine h w0 H0 N a w H hs K Q λv w' H' he hv hb=>?_
 rw[hd];exact k _ _ _<|SM hs he hN hf (Yc hl) hv hb
def Step.over{o:Oper}(h:B0 P Γ o s)(hg:o.guard=none)(hd:o.dst=some d)(hN:d<N)(hl:s.LV d=false):Step P N ops o Γ ((d,s)::del d Γ):=by
 intro w0 H0 a w H hs K Q k;simp[Region.wanted,hg,if_true];refine h w0 H0 N a w H hs K Q λv w' H' he hv hb=>?_
 rw[hd];exact k _ _ _<|SM (hs.weaken Mb) he hN PX (Yc hl) hv hb
def gd(b:Bool):Bool->Bool
 |true=>b|false=> !b
def ahP{w0:Ah P}{w:AR}(hs:Sat w0 H0 N Γ a w H)(hj:(ops[j]?).bind (·.dst)=some dj)(hl:look Γ dj=some (.val<|Ay b))(hN:dj<N):yielded ops a.tmps j=some b:=by
 have h:=hs.holds _<|BD hl
 have h:Ae a dj= .bool b:=h;have hlt:dj<a.tmps.size:=hs.sz▸hN;simp[yielded,hj,Option.bind_some];simp[Ae,hlt] at h;simp[hlt,h]
def aiV{o:Oper}{w0:Ah P}{w:AR}(hs:Sat w0 H0 N Γ a w H)(hg:o.guard=some (j,want))(hj:(ops[j]?).bind (·.dst)=some dj)(hl:look Γ dj=some (.val<|Ay b))(hN:dj<N):Region.wanted o (yielded ops a.tmps)=gd b want:=by simp[Region.wanted,hg,ahP hs hj hl hN];cases b<;>cases want<;>rfl
inductive Iq(Γ:Ctx)(e:Bool):Ctx->Prop where
 |nil:Iq Γ e []|v {t:Nat} {s:AS} {Aq:Ctx} (h:look Γ t=some s) (r:Iq Γ e Aq):Iq Γ e ((t,s)::Aq)|o {t:Nat} {s:AS} {c:Bool} {Aq:Ctx} (h:look Γ t=some (.opt c s)) (k:e=true->c=true) (r:Iq Γ e Aq):Iq Γ e ((t,s)::Aq)
def Iq.mem{Γ Aq:Ctx}(h:Iq Γ e Aq)(he:e=true):∀p∈Aq,p∈Γ\/(p.1,AS.opt true p.2)∈Γ:=by
 induction h with
 |nil=>simp
 |v h _ ih=>
  intro p hp;rcases Am.1 hp with e|hp
  .subst e;exact .inl<|BD h
  .exact ih p hp
 |o h k _ ih=>
  intro p hp;rcases Am.1 hp with e|hp
  .subst e;have:=k he;subst this;exact .inr<|BD h
  .exact ih p hp
theorem Iq.sat{Γ Aq:Ctx}(h:Iq Γ e Aq)(he:e=true){w0:Ah P}{N:Nat}{w:AR}(hs:Sat w0 H0 N Γ a w H):Sat w0 H0 N Aq a w H:=by
 have key:∀p∈Aq,∃s,(p.1,s)∈Γ/\(s.holds w0 a w H (Ae a p.1)->p.2.holds w0 a w H (Ae a p.1))/\∀v b,p.2.owns w v b->s.owns w v b:=by
  intro p hp;rcases h.mem he p hp with h|h
  .grind
  .exact⟨_,h,λk=>k.1 rfl,λv b hb=>⟨rfl,hb⟩⟩
 refine⟨hs.nd,hs.sz,hs.below,hs.Fj,hs.sub,?_,?_,hs.gl⟩
 .intro p hp;let⟨s,h1,h2,_⟩:=key p hp;exact h2<|hs.holds _ h1
 .intro p hp q hq hne b hb Bg;let⟨s,h1,_,h3⟩:=key p hp;let⟨s',h1',_,h3'⟩:=key q hq;exact hs.sep _ h1 _ h1' hne b (h3 _ _ hb)<|h3' _ _ Bg
def opO{Ai:Ctx}{o:Oper}(ho:Iq Γ e Ai)(h:e=true->B0 P Ai o s):e=true->B0 P Γ o s:=λhe w0 H0 N a w H hs K Q k=>h he w0 H0 N a w H (ho.sat he hs) K Q λv w' H' hx hv hb=>k v w' H' hx hv hb
structure XP(ops:BG Oper)(N:Nat)(Γ:Ctx)(o:Oper)(e:Bool):Prop where
 w:∀{P':CP} (w0:Ah P') (H0:HV) (a:Act) (w:AR) (H:HV),Sat w0 H0 N Γ a w H->Region.wanted o (yielded ops a.tmps)=e
def XP.v{o:Oper}(hg:o.guard=some (j,want))(hj:(ops[j]?).bind (·.dst)=some dj)(hl:look Γ dj=some (.val<|Ay b))(hN:dj<N):XP ops N Γ o (gd b want):=⟨λ_ _ _ _ _ hs=>aiV hs hg hj hl hN⟩
def XP.o{o:Oper}{j dj:Nat}{b c want:Bool}(hg:o.guard=some (j,want))(hj:(ops[j]?).bind (·.dst)=some dj)(hl:look Γ dj=some (.opt c<| .val<|Ay b))(hN:dj<N):XP ops N Γ o (c&&gd b want):=
 ⟨λ_ _ a _ _ hs=>by
  have h:=hs.holds _<|BD hl
  have hlt:dj<a.tmps.size:=hs.sz▸hN;cases c
  .have e:Ae a dj=undef:=h.2 rfl;simp[Ae,hlt] at e;have:yielded ops a.tmps j=none:=by simp[yielded,hj,hlt,e,undef]
   simp[Region.wanted,hg,this]
  .have e:Ae a dj= .bool b:=h.1 rfl;simp[Ae,hlt] at e;have:yielded ops a.tmps j=some b:=by simp[yielded,hj,hlt,e]
   simp[Region.wanted,hg,this,Kg];cases b<;>cases want<;>rfl⟩
def Step.guarded{o:Oper}(hgd:XP ops N Γ o e)
 (h:e=true->B0 P Γ o s)(hd:o.dst=some d)(hN:d<N)(hf:Jc d Γ=true)(hl:s.LV d=false):Step P N ops o Γ ((d,.opt e s)::Γ):=by
 intro w0 H0 a w H hs K Q k;rw[hgd.w w0 H0 a w H hs];have hl':d∉(AS.opt e s).CD:=Yc (s:=s) hl;cases hb:e
 .simp[UM,if_false];rw[hd];subst hb;exact k _ _ _ (SM hs (Ext.refl hs.sub) hN hf hl' ⟨(λe=>by cases e),λ_=>rfl⟩ (λc e=>by cases e.1))
 .simp[if_true];subst hb;refine h rfl w0 H0 N a w H hs K Q λv w' H' he hv hfr=>?_
  rw[hd];exact k _ _ _ (SM hs he hN hf hl' ⟨(λ_=>hv),(λe=>by cases e)⟩<|λc e=>hfr c e.2)
def Si(o:Oper):A3 Edge:=o.after.toList.filter<|Region.binds .any
def O2(ops:BG Oper)(av:A3 (A3 Nat)):Bool:=
 (List.range ops.size).all λi=>match ops[i]? with
  |none=>false
  |some o=>((Si o).all λe=>decide<|e.on<i)&&
   (av.getD i []).all λj=>(Si o).any λe=>e.on==j||(av.getD e.on []).contains j
def Qu(ops:BG Oper)(k:Nat)(av:A3 (A3 Nat)):Bool:=decide (k<=ops.size)&&(List.range ops.size).all λi=>decide (i<k)||(List.range i).all λj=>(av.getD i []).contains j
def meets(x:A3 (Nat×A3 Nat))(l:A3 Nat):Bool:=x.any λp=>l.contains p.1
def TJ(k:Nat)(kl:A3 (A3<|Nat×A3 Nat))(Dw:A3 (A3 Nat))(Dv:A3 Bool)(L:A3 Nat)(av:A3 (A3 Nat)):Bool:=
 ((List.range k).all λj=>(List.range j).all λi=>(!(meets (kl.getD i []) (Dw.getD j [])||meets (kl.getD i []) ((kl.getD j []).map (·.1))||meets (kl.getD j []) (Dw.getD i [])))||(av.getD j []).contains i)&&
 ((List.range k).all λj=> !(Dv.getD j true)||(!(meets ((kl.getD j []).take 1) L)&&(List.range k).all λi=>(kl.getD i []).all λp=>p.2.all λt=>!(meets ((kl.getD j []).take 1) [t])||(i !=j&&(meets (kl.getD j []) [p.1]||(av.getD i []).contains j||(av.getD j []).any λm=>decide (i<m)&&meets (kl.getD m []) [p.1]))||(i==j&& !(meets ((kl.getD j []).take 1) [p.1]))))
def OZ:Ctx->A3 Nat
 |[]=>[]|p::Γ=>p.2.CD++OZ Γ
def wX:∀{Γ:Ctx} {q:Nat×AS} {t:Nat},q∈Γ->t∈q.2.CD->t∈OZ Γ
 |p::Γ,q,t,h,e=>by
  rcases Am.1 h with h|h
  .subst h;simp[OZ,e]
  .have:=wX h e;simp[OZ,this]
def BL(d:Nat):Ctx->Ctx
 |[]=>[]|p::Γ=>bif Nat.beq p.1 d then BL d Γ else p::BL d Γ
def DO{d:Nat}:∀{Γ:Ctx},∀p∈BL d Γ,p∈Γ/\p.1≠d
 |[],p,h=>by simp[BL] at h
 |q::Γ,p,h=>by
  simp[BL] at h;cases hb:Nat.beq q.1 d
  .rw[hb] at h;rcases Am.1 h with e|h
   .subst e;exact⟨by simp,Nat.ne_of_beq_eq_false hb⟩
   .exact⟨Br _ (DO p h).1,(DO p h).2⟩
  .rw[hb] at h;exact⟨Br _ (DO p h).1,(DO p h).2⟩
theorem PW{d:Nat}:∀{Γ:Ctx} {p:Nat×AS},p∈Γ->p.1≠d->p∈BL d Γ
 |q::Γ,p,h,hn=>by
  simp[BL];rcases Am.1 h with e|h
  .subst e;cases hb:Nat.beq p.1 d
   .simp
   .exact absurd (EF hb) hn
  .have:=PW h hn;cases Nat.beq q.1 d
   .grind
   .exact this
def P3(P:CP)(N:Nat)(ops:BG Oper)(Ai:Ctx)(o:Oper)(t:Nat)(s:AS):Prop:=∀EP:Ctx,(∀q∈Ai,q∈EP)->Step P N ops o EP ((t,s)::BL t EP)
def kU(ks:A3 Nat)(Γ:Ctx):Ctx:=Γ.filter λq=> !ks.contains q.1
def Yz{ks:A3 Nat}{Γ:Ctx}{q:Nat×AS}:q∈kU ks Γ↔q∈Γ/\q.1∉ks:=by simp[kU]
def QA(P:CP)(N:Nat)(ops:BG Oper)(Ai:Ctx)(o:Oper)(t d:Nat)(s:AS):Prop:=∀EP:Ctx,(∀q∈Ai,q∈EP)->Step P N ops o EP ((d,s)::del d (BL t EP))
def kV(P:CP)(N:Nat)(ops:BG Oper)(Ai:Ctx)(o:Oper)(t:Nat)(s':AS)(d:Nat)(s:AS):Prop:=∀EP:Ctx,(∀q∈Ai,q∈EP)->Step P N ops o EP ((d,s)::(t,s')::del d (BL t EP))
def adJ(P:CP)(N:Nat)(ops:BG Oper)(put:Bool)(c Ai:Ctx)(o:Oper):Prop:=∀EP:Ctx,(∀q∈Ai,q∈EP)->(put=true->∀q∈EP,q.1∉c.map (·.1)->∀p∈c.take 1,p.1∉q.2.CD)->(put=true->∀q∈c.take 1,∀p∈c.take 1,p.1∉q.2.CD)->∃Aq:Ctx,Step P N ops o EP Aq/\∀q,q∈c++kU (c.map (·.1)) EP->q∈Aq
inductive Ev(P:CP)(N:Nat)(ops:BG Oper)(Γ:Ctx):A3 Ctx->A3 Oper->A3 (A3 Nat)->A3 Bool->A3 Ctx->Prop where
 |nil {acc:A3 Ctx}:Ev P N ops Γ acc [] [] [] acc
 |gen {acc S:A3 Ctx} {Ai c:Ctx} {o:Oper} {l:A3 Oper} {ts:A3 Nat} {Dw:A3 (A3 Nat)} {put:Bool} {Dv:A3 Bool}
   (hs:EU (acc.flatten++Γ) ts Ai) (h:adJ P N ops put c Ai o) (r:Ev P N ops Γ (c::acc) l Dw Dv S):Ev P N ops Γ acc (o::l) (ts::Dw) (put::Dv) S
theorem ah8{A B:Ctx}{t:Nat}(h:look (A++B) t=some s):look A t=some s\/((∀q∈A,q.1≠t)/\look B t=some s):=by
 induction A with
 |nil=>exact .inr ⟨(λq hq=>by cases hq),h⟩
 |cons p A ih=>
  let⟨k,s'⟩:=p;simp only[Se,look] at h⊢;cases hb:Nat.beq k t
  .rw[hb] at h;rcases ih h with h|⟨h1,h2⟩
   .exact .inl h
   .refine .inr ⟨λq hq=>?_,h2⟩;rcases Am.1 hq with e|hq
    .subst e;exact Nat.ne_of_beq_eq_false hb
    .exact h1 q hq
  .grind
def At(Γ:Ctx)(S:A3 Ctx)(i:Nat)(q:Nat×AS):Prop:=(∃j c,j<i/\S[j]? =some c/\q∈c/\∀j' c',j<j'->j'<i->S[j']? =some c'->∀q'∈c',q'.1≠q.1)\/(q∈Γ/\∀j c',j<i->S[j]? =some c'->∀q'∈c',q'.1≠q.1)
theorem o9{Γ:Ctx}{t:Nat}{s:AS}{S:A3 Ctx}:∀{acc:A3 Ctx},(∀j,j<acc.length->S[j]? =acc.reverse[j]?)->look (acc.flatten++Γ) t=some s->At Γ S acc.length (t,s)
 |[],_,h=> .inr ⟨BD (by simpa using h),λj c' hj=>by simp at hj⟩
 |c::acc,hS,h=>by
  have arQ:S[acc.length]? =some c:=by grind
  rw[List.flatten_cons,ID] at h;rcases ah8 h with h|⟨h1,h2⟩
  .exact .inl ⟨acc.length,c,by simp,arQ,BD h,λj' c' h3 h4=>by simp at h4;omega⟩
  .have ih:=o9 (acc:=acc) (λj hj=>by rw[hS j (by simp;omega),List.reverse_cons,Mh (by simpa using hj)]) h2
   rcases ih with⟨j,c0,k1,k2,k3,k4⟩|⟨k1,k2⟩
   .refine .inl ⟨j,c0,by simp;omega,k2,k3,λj' c' h3 h4 h5=>?_⟩;simp at h4;by_cases e:j'=acc.length
    .grind
    .grind
   .refine .inr ⟨k1,λj' c' h4 h5=>?_⟩;simp at h4;by_cases e:j'=acc.length
    .grind
    .grind
structure ac3(P:CP)(N:Nat)(ops:BG Oper)(Γ:Ctx)(ts:A3 Nat)(put:Bool)(S:A3 Ctx)(i:Nat)(o:Oper)(c:Ctx):Prop where
 exec:∃Ai:Ctx,adJ P N ops put c Ai o/\∀q∈Ai,q.1∈ts/\At Γ S i q
def EU.looks{Γ:Ctx}{ts:A3 Nat}{Aq:Ctx}(h:EU Γ ts Aq):∀p∈Aq,look Γ p.1=some p.2:=by
 induction h with
 |nil=>simp
 |cons h _ ih=>
  intro p hp;rcases Am.1 hp with e|hp
  .subst e;exact h
  .exact ih p hp
def zB{EP:Ctx}(h:∀q∈EP,q.1≠d->d∉q.2.CD):Jc d (BL d EP)=true:=by simp only[Jc,Dr,C9,MU,ne_eq];exact λq hq=>⟨(DO q hq).2,by simpa using h q (DO q hq).1 (DO q hq).2⟩
def Sat.aoN{P:CP}{w0:Ah P}{w:AR}(hs:Sat w0 H0 N Γ a w H)(t:Nat):Sat w0 H0 N ((t,.gone)::Γ) a w H:=by
 refine⟨hs.nd,hs.sz,hs.below,hs.Fj,hs.sub,?_,?_,hs.gl⟩
 .intro p hp;rcases Am.1 hp with e|hp
  .subst e;trivial
  .exact hs.holds p hp
 .intro p hp q hq hne b hb Bg;rcases Am.1 hp with e|hp
  .subst e;exact hb.elim
  .rcases Am.1 hq with e|hq
   .subst e;exact Bg.elim
   .exact hs.sep p hp q hq hne b hb Bg
def Step.gone{o:Oper}(h:Step P N ops o Γ Aq)(t:Nat):Step P N ops o Γ ((t,.gone)::Aq):=λw0 H0 a w H hs K Q k=>h w0 H0 a w H hs K Q λa' w' H' DQ=>k a' w' H'<|DQ.aoN t
def Step.acX{o:Oper}(h:Step P N ops o Γ Aq):∀gs:A3 Nat,Step P N ops o Γ ((gs.map λu=>(u,AS.gone))++Aq)
 |[]=>h|u::gs=>(Step.acX h gs).gone u
theorem qQ{EP:Ctx}{p q:Nat×AS}(h:q∈[p]++kU ([p].map (·.1)) EP):q∈p::BL p.1 EP:=by
 rcases CJ.1 h with h|h
 .grind
 .let⟨h1,h2⟩:=Yz.1 h;exact Br _ (PW h1 (by simpa using h2))
theorem SR{d:Nat}:∀{Γ:Ctx} {p:Nat×AS},p∈Γ->p.1≠d->d∉p.2.CD->p∈del d Γ
 |q::Γ,p,h,hn,hl=>by
  simp[del];have hq:(Nat.beq p.1 d||p.2.LV d)=false:=by rw[Ki];exact⟨by cases hb:Nat.beq p.1 d;rfl;exact absurd (EF hb) hn,aht hl⟩
  rcases Am.1 h with e|h
  .grind
  .have:=SR h hn hl;cases(Nat.beq q.1 d||q.2.LV d)
   .grind
   .exact this
def Ev.at_{acc:A3 Ctx}{l:A3 Oper}{Dw:A3 (A3 Nat)}{Dv:A3 Bool}{S:A3 Ctx}(h:Ev P N ops Γ acc l Dw Dv S):(∃S',S=S'++acc/\S'.length=l.length)/\Dw.length=l.length/\Dv.length=l.length/\∀(i:Nat) (o:Oper) (ts:A3 Nat) (put:Bool),l[i]? =some o->Dw[i]? =some ts->Dv[i]? =some put->∃p,S.reverse[acc.length+i]? =some p/\ac3 P N ops Γ ts put S.reverse (acc.length+i) o p:=by
 have step:∀{acc:A3 Ctx} {c:Ctx} {l:A3 Oper} {S:A3 Ctx},(∃S',S=S'++c::acc/\S'.length=l.length)->(∃S',S=S'++acc/\S'.length=l.length+1)/\S.reverse[acc.length]? =some c/\∀j,j<acc.length->S.reverse[j]? =acc.reverse[j]? :=by rintro acc c l S ⟨S',rfl,hl⟩;refine⟨⟨S'++[c],by simp,by simp[hl]⟩,by simp,λj hj=>?_⟩;simp[List.reverse_append,List.reverse_cons,ID];rw[Mh (by simpa using hj)]
 induction h with
 |nil=>exact⟨⟨[],by simp⟩,rfl,rfl,λi o _ _ h=>by simp at h⟩
 | @gen acc S Ai c o l ts Dw put Dv hs h r ih=>
  let⟨h1,h2,h3,h4⟩:=ih;let⟨k1,k2,k3⟩:=step h1;refine⟨by simpa using k1,by simp[h2],by simp[h3],?_⟩;intro i o' ts' asV hi hn hp;cases i with
  |zero=>simp at hi hn hp;subst hi;subst hn;subst hp;exact⟨c,by simpa using k2,⟨Ai,h,λq hq=>⟨hs.keys q hq,by simpa using o9 k3 (hs.looks q hq)⟩⟩⟩
  |succ i=>
   simp at hi hn hp;let⟨p,hp1,hp2⟩:=h4 i o' ts' asV hi hn hp;have e:acc.length+(i+1)=(c::acc).length+i:=by simp;omega
   rw[e];exact⟨p,hp1,hp2⟩
end
section
variable[D:DR]
variable{P:Program}{N:Nat}{ops:Array Oper}{Γ Aq Er Tq:Ctx}
variable{acc S:List Ctx}{Γ Ai:Ctx}{o:Oper}{l:List Oper}{ts:List Nat}{Dw:List (List Nat)}{Dv:List Bool}{t d u:Nat}{s s' su:AS}{e:Bool}(gs:List Nat)(hs:EU (acc.flatten++Γ) ts Ai)
include hs
def Ev.cons(h:B0 P Ai o s)(hg:o.guard=none)(hd:o.dst=some d)(hN:d<N)(r:Ev P N ops Γ ([(d,s)]::acc) l Dw Dv S):Ev P N ops Γ acc (o::l) (ts::Dw) (true::Dv) S:=by
 refine .gen hs (λEP BI KE aX=>?_) r;refine⟨(d,s)::BL d EP,?_,λq hq=>qQ hq⟩;intro w0 H0 a w H BJ K Q kk;simp[Region.wanted,hg,if_true];refine h w0 H0 N a w H (BJ.weaken BI) K Q λv w' H' he hv hb=>?_
 rw[hd];exact kk _ _ _ (SM (BJ.weaken λq hq=>(DO q hq).1) he hN (zB λq hq hn=>KE rfl q hq (by simpa using hn) (d,s) (by simp)) (aX rfl (d,s) (by simp) (d,s) (by simp)) hv hb)
def Ev.guarded(hgd:XP ops N Ai o e)(h:e=true->B0 P Ai o s)(hd:o.dst=some d)(hN:d<N)(r:Ev P N ops Γ ([(d,.opt e s)]::acc) l Dw Dv S):Ev P N ops Γ acc (o::l) (ts::Dw) (true::Dv) S:=by
 refine .gen hs (λEP BI KE aX=>?_) r;refine⟨(d,.opt e s)::BL d EP,?_,λq hq=>qQ hq⟩;intro w0 H0 a w H BJ K Q kk;rw[hgd.w w0 H0 a w H<|BJ.weaken BI];have acO:=BJ.weaken (Aq:=BL d EP) λq hq=>(DO q hq).1
 have hf':Jc d (BL d EP)=true:=zB λq hq hn=>KE rfl q hq (by simpa using hn) (d,.opt e s) (by simp)
 have DQ:d∉(AS.opt e s).CD:=aX rfl (d,.opt e s) (by simp) (d,.opt e s) (by simp);cases hb:e
 .simp[UM,if_false];rw[hd];subst hb;exact kk _ _ _ (SM acO (Ext.refl BJ.sub) hN hf' DQ ⟨(λe=>by cases e),λ_=>rfl⟩ (λc e=>by cases e.1))
 .simp[if_true];subst hb;refine h rfl w0 H0 N a w H (BJ.weaken BI) K Q λv w' H' he hv hfr=>?_
  rw[hd];exact kk _ _ _ (SM acO he hN hf' DQ ⟨(λ_=>hv),(λe=>by cases e)⟩<|λc e=>hfr c e.2)
def Ev.store(h:P3 P N ops Ai o t s)(r:Ev P N ops Γ ([(t,s)]::acc) l Dw Dv S):Ev P N ops Γ acc (o::l) (ts::Dw) (false::Dv) S:=.gen hs (λEP BI _ _=>⟨_,h EP BI,λq hq=>qQ hq⟩) r
theorem Ev.avi(h:QA P N ops Ai o t d s)(r:Ev P N ops Γ (((d,s)::(t,.gone)::gs.map λu=>(u,.gone))::acc) l Dw Dv S):Ev P N ops Γ acc (o::l) (ts::Dw) (true::Dv) S:=by
 refine .gen hs (λEP BI KE _=>⟨_,((h EP BI).acX gs).gone t,λq hq=>?_⟩) r;rcases CJ.1 hq with hq|hq
 .grind
 .let⟨m1,m2⟩:=Yz.1 hq;have m3:=m2;simp[MW,Am,not_or] at m2;refine Br _<|WZ _<|Br _<|SR (PW m1 m2.2.1) m2.1 ?_
  exact KE rfl q m1 m3 (d,s) (by simp)
theorem Ev.two(h:kV P N ops Ai o t s' d s)(r:Ev P N ops Γ ([(d,s),(t,s')]::acc) l Dw Dv S):Ev P N ops Γ acc (o::l) (ts::Dw) (true::Dv) S:=by
 refine .gen hs (λEP BI KE _=>⟨_,h EP BI,λq hq=>?_⟩) r;rcases CJ.1 hq with hq|hq
 .grind
 .let⟨m1,m2⟩:=Yz.1 hq;have m3:=m2;simp[MW,ZV,Am,Ze,or_false,not_or] at m2;exact Br _ (Br _ (SR (PW m1 m2.2) m2.1 (KE rfl q m1 m3 (d,s) (by simp))))
end
section
variable[D:DR]
variable{P:CP}{w:AR}{o:Oper}{n:Nat}{l:A3 Oper}
def IH{P:CP}(w0:Ah P)(N:Nat)(Γ Er:Ctx):Prop:=∀(H0:HV) (a:Act) (w:AR) (H:HV),Sat w0 H0 N Γ a w H->∃H',Sat w0 H0 N Er a w H'
inductive JI(P:CP)(w0:Ah P)(N:Nat)(ops:BG Oper):A3 Oper->Ctx->Ctx->Prop where
 |done {Γ:Ctx}:JI P w0 N ops [] Γ Γ|fin {Γ Aq:Ctx} {ts:A3 Nat} (h:EU Γ ts Aq):JI P w0 N ops [] Γ Aq|cons {Γ Er Tq:Ctx} {o:Oper} {l:A3 Oper} (h:Step P N ops o Γ Er) (r:JI P w0 N ops l Er Tq):JI P w0 N ops (o::l) Γ Tq|ghost {Γ Er Tq:Ctx} {l:A3 Oper} (h:IH w0 N Γ Er) (r:JI P w0 N ops l Er Tq):JI P w0 N ops l Γ Tq
def Fx(rd:A9 Nat):Fence:={fn:=λ_=>True,depth:=none,alive:=false,round:=rd}
def abr{rd:A9 Nat}{f:FuncId}{args:BG AV}{R:Ending->AR->Prop}(h:Calls P f args w R):CallsIn (Fx rd) n P f args w R:=(callsIn_wide (n:=n)).2 h
def ZI{rd:A9 Nat}{a:Act}{K:Act->AR->Prop}{Q:Exit->Act->AR->Prop}(IV:∀c,o.op≠ .defer c)(h:o.wp P a w K Q):o.wpIn (Fx rd) 0 P a w K Q:=by
 refine⟨λ_ _=>trivial,?_⟩;rw[Oper.semAt_eq _ _ _ IV];unfold Oper.wp at h
 generalize (execOp a.eval o).run P w=r at*
 cases r with
 |ok n w'=>
  cases n<;>simp[Oper.upon] at h<;>first
   |exact h|exact h.elim|exact⟨(λe=>by cases e),abr h⟩|exact⟨(λe=>by cases e),λc cs _=>let⟨v,w2,r1,s⟩:=h c cs;⟨v,w2,r1,stepsIn_wide.2 s⟩⟩
 |halt x w'=>cases x<;>simp[Oper.upon] at h⊢ <;>exact h
def CallsIn.acD{F:Fence}{f:FuncId}{args:BG AV}{R R':Ending->AR->Prop}(h:CallsIn F n P f args w R)(hr:∀e w',R e w'->R' e w'):CallsIn F n P f args w R':=⟨h.1,λcs hc=>let⟨e,w',fr,r,s⟩:=h.2 cs hc;⟨e,w',fr,hr _ _ r,s⟩⟩
def vV{F:Fence}{a:Act}{K K':Act->AR->Prop}{Q:Exit->Act->AR->Prop}(h:∀a w,K a w->K' a w)(hh:o.wpIn F n P a w K Q):o.wpIn F n P a w K' Q:=by
 refine⟨hh.1,?_⟩;have hh:=hh.2
 generalize (o.semAt F.round a.eval).run P w=r at*
 cases r with
 |ok n w'=>
  cases n<;>simp[Oper.uponIn] at hh⊢ <;>
   first
    |exact h _ _ hh|exact⟨hh.1,CallsIn.acD hh.2 (λe w'' he=>by cases e<;>first|exact h _ _ he|exact he)⟩
    |exact⟨hh.1,RowsIn.mono hh.2<|λ_ _ he=>h _ _ he⟩|exact⟨hh.1,RoundIn.mono hh.2 (λe w'' he=>by cases e<;>first|exact h _ _ he|exact he)⟩
 |halt x w'=>cases x<;>simp only[Oper.uponIn] at hh⊢ <;>exact hh
def Jf(l:A3 Oper):Bool:=l.all λo=>match o.op with| .defer _=>false|_=>true
def nk(h:Jf l=true)(ho:o∈l):∀c,o.op≠ .defer c:=λc e=>by have:=Dr.1 h o ho;simp[e] at this
theorem xN(h:Jf (o::l)=true):Jf l=true:=by grind [Jf]
def JI.sound{w0:Ah P}{N:Nat}{ops:BG Oper}{Γ Aq:Ctx}(h:JI P w0 N ops l Γ Aq):Jf l=true->∀(H0:HV) (a:Act) (w:AR) (H:HV),Sat w0 H0 N Γ a w H->∀(Q:Exit->Act->AR->Prop),(∀a' w' H',Sat w0 H0 N Aq a' w' H'->Q .normal a' w')->wpListIn (Fx w0.rd) 0 P ops Q l a w:=by
 induction h with
 |done=>exact λ_ _ _ _ H hs _ k=>k _ _ H hs|fin h=>exact λ_ _ _ _ H hs _ k=>k _ _ H<|hs.weaken h.sub
 | @cons _ _ _ o l h _ ih=>
  intro Az H0 a w H hs Q k;have Ex:=h w0 H0 a w H hs (wpListIn (Fx w0.rd) 0 P ops Q l) Q λa' w' H' DQ=>ih (xN Az) H0 a' w' H' DQ Q k
  unfold wpListIn;split
  .rename_i hw;rw[if_pos hw] at Ex;exact ZI (nk Az (by simp)) Ex
  .rename_i hw;rw[if_neg hw] at Ex;exact⟨λ_ _=>trivial,Ex⟩
 |ghost h _ ih=>intro Az H0 a w H hs Q k;let⟨H',DQ⟩:=h H0 a w H hs;exact ih Az H0 a w H' DQ Q k
end
section
variable[D:DR]
variable{P:Program}{ops:Array Oper}{Q:Exit->Act->World->Prop}{F:Fence}
def RC(F:Fence)(P:CP)(ops:BG Oper)(Q:Exit->Act->AR->Prop)(i:Nat)(K:Act->AR->Prop)(a:Act)(w:AR):Prop:=
 match ops[i]? with|none=>K a w|some o=>if Region.wanted o (yielded ops a.tmps) then o.wpIn F 0 P a w K Q else(∀f,o.about P w a.eval=some f->F.fn f)/\K (a.put o.dst undef) w
def Pl(F:Fence)(P:CP)(ops:BG Oper)(Q:Exit->Act->AR->Prop):Nat->BG Bool->Act->AR->Prop
 |0,listed,a,w=>Region.ready .any ops listed=[]/\Q .normal a w
 |fuel+1,listed,a,w=>
  (Region.ready .any ops listed=[]->Q .normal a w)/\
  ∀i∈Region.ready .any ops listed,RC F P ops Q i (Pl F P ops Q fuel<|listed.setIfInBounds i true) a w
def agR(i:Nat)(rest:A3 Nat)(a:Act)(w:AR):wpOpsIn F 0 P ops Q (i::rest) a w=RC F P ops Q i (wpOpsIn F 0 P ops Q rest) a w:=by cases h:ops[i]? <;>simp[wpOpsIn,RC,h]
def ahQ{i:Nat}{a:Act}{w:AR}{K K':Act->AR->Prop}(h:∀a w,K a w->K' a w)(hh:RC F P ops Q i K a w):RC F P ops Q i K' a w:=by
 unfold RC at*;split
 .exact h _ _ (by simpa[*] using hh)
 .rename_i o ho;simp[ho] at hh;split
  .rename_i hw;simp[hw,if_true] at hh;exact vV h hh
  .rename_i hw;simp[hw] at hh;exact⟨hh.1,h _ _ hh.2⟩
def afj:∀(fuel t:Nat) (listed:BG Bool) (a:Act) (w:AR),Pl F P ops Q fuel listed a w->wpOpsIn F 0 P ops Q (Region.linearise.go .any ops fuel t listed []) a w:=by
 intro fuel
 induction fuel with
 |zero=>intro t listed a w h;simpa[Region.linearise.go,wpOpsIn] using h.2
 |succ fuel ih=>
  intro t listed a w h;let⟨h0,h1⟩:=h;simp only[Region.linearise.go];change wpOpsIn F 0 P ops Q (match(Region.ready .any ops listed)[t%(Region.ready .any ops listed).length]? with|some i=>Region.linearise.go .any ops fuel (t/(Region.ready .any ops listed).length) (listed.setIfInBounds i true) [i]|none=>[].reverse) a w
  cases hi:(Region.ready .any ops listed)[t%(Region.ready .any ops listed).length]? with
  |none=>
   have Uv:Region.ready .any ops listed=[]:=by
    cases hr:Region.ready .any ops listed with
    |nil=>rfl
    |cons x xs=>rw[hr] at hi;have hlt:t%(x::xs).length<(x::xs).length:=OS _ (by simp);simp at hi;simp at hlt;omega
   simpa[wpOpsIn] using h0 Uv
  |some i=>simp[];rw[linearise_go_acc,List.reverse_singleton,List.singleton_append,agR];exact ahQ (λa w=>ih _ _ a w)<|h1 i<|KC hi
def aeI{id:Nat}{a:Act}{w:AR}(hm:P.follows .mixedOrders=true)
  (h:Pl F P ops Q ops.size (Array.replicate ops.size false) a {w with drawn:=w.drawn+1}):(Code.region id ops true).wpIn F 0 P Q a w:=
 wpIn_region_draw λt=>by simp[Region.schedule,hm,ZU,if_true];exact afj ops.size t _ a _ h
end
section
variable[D:DR]
variable{P:Program}{N:Nat}{ops:Array Oper}{Γ Aq:Ctx}
variable{listed:BG Bool}{i:Nat}{av:A3 (A3 Nat)}{Q:Exit->Act->AR->Prop}{k:Nat}{S:A3 Ctx}{a:Act}{w:AR}{c:Ctx}{Dw:A3 (A3 Nat)}{Dv:A3 Bool}{kl:A3 (A3<|Nat×A3 Nat)}{L:A3 Nat}{GC:Ctx}{ts:A3 Nat}{w0:Ah P}{H0:HV}
def Dl(listed:BG Bool)(i:Nat):Prop:=listed.getD i false=true
def aam(h:i<listed.size):listed.getD i true=listed.getD i false:=by simp[h]
def Vr(hs:listed.size=ops.size):i∈Region.ready .any ops listed↔∃o,ops[i]? =some o/\ ¬Dl listed i/\∀e∈Si o,Dl listed e.on:=by
 simp only[Region.ready,IC,Ql];constructor
 .rintro⟨hi,h⟩;have hi':i<listed.size:=hs▸hi;rw[aam hi'] at h;simp[C9,GM] at h;let⟨h1,h2⟩:=h;refine⟨ops[i],by simp[hi],by simp[Dl];simpa using h1,?_⟩;simp only[hi,getElem?_pos,Ph,Zd] at h2;intro e he;have:=Array.all_eq_true'.1 h2 e (by simpa using(IC.1 he).1);have hb:=(IC.1 he).2;simp[hb] at this;simpa[Dl] using this
 .rintro⟨o,ho,hl,he⟩;have hi:i<ops.size:=(Sh.1 ho).1;have hi':i<listed.size:=hs▸hi;refine⟨hi,?_⟩;rw[aam hi'];simp only[C9,GM,ho,Ph,Zd];refine⟨by simpa[Dl] using hl,?_⟩;rw[Array.all_eq_true'];intro e hm;by_cases hb:Region.binds .any e=true
  .have:=he e (IC.2 ⟨by simpa using hm,hb⟩);simp[Dl] at this;simp[this]
  .simp at hb;simp[hb]
def Qq{j:Nat}(hi:i<listed.size):Dl (listed.setIfInBounds i true) j↔(j=i\/Dl listed j):=by
 simp[Dl,UT];by_cases e:i=j
 .subst e;simp[hi]
 .rw[Array.getElem?_setIfInBounds_ne e];constructor
  .exact λh=> .inr h
  .rintro(h|h)
   .exact absurd h.symm e
   .exact h
def unl(listed:BG Bool):Nat:=listed.toList.count false
def aBj(hi:i<listed.size)(hn: ¬Dl listed i):unl (listed.setIfInBounds i true)+1=unl listed:=by
 have hf:listed.toList[i]'(by simpa using hi)=false:=by simp[Dl,hi] at hn;simpa using hn
 have hpos:0<listed.toList.count false:=List.count_pos_iff.2 (by rw[<-hf];exact Lz _);simp only[unl,j6];rw[List.count_set (by simpa using hi),hf];simp only[beq_self_eq_true,if_true];have:(true==false)=false:=rfl;rw[this];simp only[UM,if_false];omega
def yg(h:unl listed=0)(hi:i<listed.size):Dl listed i:=by
 have:=List.count_eq_zero.1 h;have hm:listed[i]∈listed.toList:=by simp
 simp[Dl,hi,UT,getElem?_pos,Zd];cases hb:listed[i]
 .rw[hb] at hm;exact absurd hm this
 .rfl
theorem aaw(L3:O2 ops av=true){o:Oper}(ho:ops[i]? =some o){e:Edge}(he:e∈Si o):e.on<i:=by grind [O2,Si]
def lE{n m:Nat}: ¬Dl (Array.replicate n false) m:=by simp[Dl,UT,Array.getElem?_replicate];split<;>simp
def xD(L3:O2 ops av=true)(hs:listed.size=ops.size)(hi:i<ops.size)(hn: ¬Dl listed i):Region.ready .any ops listed≠[]:=by
 have key:∀m,∀i,i<=m->i<ops.size-> ¬Dl listed i->∃j,j∈Region.ready .any ops listed:=by
  intro m
  induction m with
  |zero=>
   intro i him hi hn;have:i=0:=by omega
   subst this;refine⟨0,(Vr hs).2 ⟨ops[0],by simp[hi],hn,?_⟩⟩;intro e he;have:=aaw L3 (i:=0) (o:=ops[0]) (by simp[hi]) he;omega
  |succ m ih=>
   intro i him hi hn;by_cases hall:∀e∈Si ops[i],Dl listed e.on
   .exact⟨i,(Vr hs).2 ⟨ops[i],by simp[hi],hn,hall⟩⟩
   .have⟨e,he,hne⟩:∃e,e∈Si ops[i]/\ ¬Dl listed e.on:=by apply Ck;intro hc;exact hall λe he=>Ck λh=>hc ⟨e,he,h⟩
    have:=aaw L3 (i:=i) (o:=ops[i]) (by simp[hi]) he;exact ih e.on (by omega) (by omega) hne
 let⟨j,hj⟩:=key i i (BQ _) hi hn;intro e;rw[e] at hj;cases hj
def oe(L3:O2 ops av=true)(hs:listed.size=ops.size)(hc:∀m,Dl listed m->∀j∈av.getD m [],Dl listed j)(hi:i∈Region.ready .any ops listed):∀j∈av.getD i [],Dl listed j:=by
 let⟨o,ho,hn,he⟩:=(Vr hs).1 hi;have hlt:=(Sh.1 ho).1;have:=Dr.1 L3 i (by simp[hlt]);simp only[ho,C9,Dr,iR] at this;intro j hj;let⟨e,he',hx⟩:=this.2 j hj;simp[Qm,Qh,UQ] at hx;rcases hx with hx|hx
 .exact hx▸he e he'
 .exact hc e.on (he e he') j hx
def amC{rd:A9 Nat}{o:Oper}{K:Act->AR->Prop}(ho:ops[i]? =some o)(IV:∀c,o.op≠ .defer c)
 (h:if Region.wanted o (yielded ops a.tmps) then o.wp P a w K Q else K (a.put o.dst undef) w):RC (Fx rd) P ops Q i K a w:=by
 unfold RC;simp[ho];split
 .rename_i hw;rw[if_pos hw] at h;exact ZI IV h
 .rename_i hw;rw[if_neg hw] at h;exact⟨λ_ _=>trivial,h⟩
def aif{F:Fence}(hq:Q .normal a w)(fuel:Nat)(listed:BG Bool)(hsz:listed.size=ops.size)(hL:∀j,j<ops.size->Dl listed j):Pl F P ops Q fuel listed a w:=by
 have hr:Region.ready .any ops listed=[]:=by apply List.eq_nil_iff_forall_not_mem.2;intro i hi;let⟨o,ho,hn,_⟩:=(Vr hsz).1 hi;exact hn<|hL i (Sh.1 ho).1
 cases fuel with|zero=>exact⟨hr,hq⟩|succ f=>exact⟨λ_=>hq,λi hi=>by rw[hr] at hi;cases hi⟩
def ahU{F:Fence}(L3:O2 ops av=true)(KS:Qu ops k av=true):∀(l:A3 Oper)
  (i fuel:Nat) (listed:BG Bool) (a:Act) (w:AR),l=ops.toList.drop i->k<=i->i<=ops.size->listed.size=ops.size->(∀j,j<ops.size->(Dl listed j↔j<i))->(∀m,Dl listed m->∀j∈av.getD m [],Dl listed j)->unl listed<=fuel->wpListIn F 0 P ops Q l a w->Pl F P ops Q fuel listed a w:=by
 intro l
 induction l with
 |nil=>
  intro i fuel listed a w hl hki hi hsz hL hc hu hw;have:ops.size<=i:=by simpa using List.drop_eq_nil_iff.1 hl.symm
  exact aif hw fuel listed hsz (λj hj=>(hL j hj).2 (by omega))
 |cons o l ih=>
  intro i fuel listed a w hl hki hi hsz hL hc hu hw;have TG:i<ops.size:=by apply Ck;intro hge;rw[List.drop_eq_nil_of_le (by simp<;>omega)] at hl;cases hl
  have hnl: ¬Dl listed i:=λh=>by have:=(hL i TG).1 h;omega
  have ho:ops[i]? =some o:=by
   have:(ops.toList.drop i)[0]? =some o:=by rw[<-hl];rfl
   simpa using this
  have hl':l=ops.toList.drop (i+1):=by have:=congrArg List.tail hl;simpa using this
  have hne:=xD L3 hsz TG hnl;have only:∀j∈Region.ready .any ops listed,j=i:=by
   intro j hj;let⟨o',Jt,hn,_⟩:=(Vr hsz).1 hj;have ad3:=(Sh.1 Jt).1;have hji:i<=j:=by apply Ck;intro hlt;exact hn ((hL j ad3).2 (by omega))
   have auR:=oe L3 hsz hc hj;simp[Qu,C9,Dr,Ql,Qm,WU,UQ] at KS;rcases KS.2 j ad3 with hx|hx
   .omega
   .apply Ck;intro hne;have:=(hL i TG).1 (auR i (hx i (by omega)));omega
  cases fuel with
  |zero=>exact absurd (yg (by omega)<|hsz▸TG) hnl
  |succ f=>
   refine⟨λe=>absurd e hne,λj hj=>?_⟩;have hji:=only j hj;subst hji;have IM:j<listed.size:=hsz▸TG;have next:∀a' w',wpListIn F 0 P ops Q l a' w'->Pl F P ops Q f (listed.setIfInBounds j true) a' w':=by
    intro a' w' hw';refine ih (j+1) f _ a' w' hl' (by omega) (by omega) (by simp[hsz]) ?_ ?_ ?_ hw'
    .intro m hm;rw[Qq IM,hL m hm];omega
    .intro m hm x hx;rw[Qq IM] at hm⊢;rcases hm with hm|hm
     .subst hm;exact .inr<|oe L3 hsz hc hj x hx
     .exact .inr<|hc m hm x hx
    .have:=aBj IM hnl;omega
   unfold wpListIn at hw;unfold RC;simp[ho];split
   .rename_i hwt;rw[if_pos hwt] at hw;exact vV next hw
   .rename_i hwt;rw[if_neg hwt] at hw;exact⟨hw.1,next _ _ hw.2⟩
def other(listed:BG Bool)(S:A3 Ctx)(k lo:Nat)(t:Nat):Bool:=(List.range k).all λj=> !(decide (lo<=j)&&listed.getD j false)||(S.getD j []).all λq=>q.1 !=t
def Ur(listed:BG Bool)(S:A3 Ctx)(k:Nat)(Γ:Ctx):Ctx:=
 ((List.range k).flatMap λj=>if listed.getD j false=true then(S.getD j []).filter (λq=>other listed S k (j+1) q.1) else [])++Γ.filter λq=>other listed S k 0 q.1
theorem fN{lo t:Nat}:other listed S k lo t=true↔∀j c,lo<=j->j<k->Dl listed j->S[j]? =some c->∀q∈c,q.1≠t:=by grind [other,Dl]
def U3{Γ:Ctx}{q:Nat×AS}:q∈Ur listed S k Γ↔(∃j c,j<k/\Dl listed j/\S[j]? =some c/\q∈c/\∀j' c',j<j'->j'<k->Dl listed j'->S[j']? =some c'->∀q'∈c',q'.1≠q.1)\/(q∈Γ/\∀j c',j<k->Dl listed j->S[j]? =some c'->∀q'∈c',q'.1≠q.1):=by
 simp only[Ur,CJ,Mf,Ql,IC];constructor
 .rintro(⟨j,hj,h⟩|⟨h1,h2⟩)
  .left;split at h
   .rename_i hl;let⟨h1,h2⟩:=IC.1 h;rw[fN] at h2;cases hc:S[j]? with
    |none=>rw[JB,hc] at h1;cases h1
    |some c=>rw[JB,hc] at h1;exact⟨j,c,hj,hl,hc,h1,λj' c' h3 h4 h5 h6=>h2 j' c' h3 h4 h5 h6⟩
   .cases h
  .right;rw[fN] at h2;exact⟨h1,λj c' h3 h4 h5=>h2 j c' (FV _) h3 h4 h5⟩
 .rintro(⟨j,c,hj,hl,hc,hq,hm⟩|⟨h1,h2⟩)
  .left;refine⟨j,hj,?_⟩;have hl':listed.getD j false=true:=hl;rw[if_pos hl'];exact IC.2 ⟨by rw[JB,hc];exact hq,fN.2 λj' c' h3 h4 h5 h6=>hm j' c' h3 h4 h5 h6⟩
  .exact .inr ⟨h1,fN.2 λj c' _ h3 h4 h5=>h2 j c' h3 h4 h5⟩
def Kp(c:Ctx):A3 (Nat×A3 Nat):=c.map λp=>(p.1,p.2.CD)
def zb{p:Nat×AS}(h:p∈c):(p.1,p.2.CD)∈Kp c:=BM.2 ⟨p,h,rfl⟩
theorem W6{p:Nat×AS}{l:A3 Nat}(h:p∈c)(hl:p.1∈l):meets (Kp c) l=true:=by(simp_all [meets,Kp]<;>grind)
theorem yM{t:Nat}(h:meets (Kp c) [t]=true):t∈c.map (·.1):=by grind [meets,Kp]
def apT{m:Nat}(h:Dl listed m):m<listed.size:=by apply Ck;intro hge;simp[Dl,UT,im<|Zc hge] at h
def ahL{Γ:Ctx}(Az:Jf (ops.toList.take k)=true)(L3:O2 ops av=true)(IV:TJ k kl Dw Dv L av=true)(hkn:k<=ops.size)(Uu:∀i,k<=i->i<ops.size->∀j,j<k->j∈av.getD i [])
 (Ju:S.reverse.map Kp=kl)(hL:OZ Γ=L)
 (hp:Ev P N ops Γ [] (ops.toList.take k) Dw Dv S)(Kr:EU (S.flatten++Γ) ts GC)
 (KX:∀(fuel:Nat) (listed:BG Bool) (a:Act) (w:AR) (H:HV),listed.size=ops.size->(∀j,j<ops.size->(Dl listed j↔j<k))->(∀m,Dl listed m->∀j∈av.getD m [],Dl listed j)->unl listed<=fuel->Sat w0 H0 N GC a w H->Pl (Fx w0.rd) P ops Q fuel listed a w):∀(fuel:Nat) (listed:BG Bool) (a:Act) (w:AR) (H:HV),listed.size=ops.size->(∀m,Dl listed m->∀j∈av.getD m [],Dl listed j)->(∀i,k<=i->i<ops.size-> ¬Dl listed i)->unl listed<=fuel->Sat w0 H0 N (Ur listed S.reverse k Γ) a w H->Pl (Fx w0.rd) P ops Q fuel listed a w:=by
 let⟨⟨S',hS',hlen⟩,hnl,Js,hat⟩:=hp.at_;have hSl:S.length=k:=by rw[hS'];simp[hlen,hkn]
 have apZ:Dw.length=k:=by rw[hnl];simp[hkn]
 have arH:Dv.length=k:=by rw[Js];simp[hkn]
 have key:∀j c,S.reverse[j]? =some c->kl.getD j []=Kp c:=by
  intro j c h;rw[<-Ju,JB,HL,h]
  rfl
 simp only[TJ,C9] at IV;let⟨hc1,HH⟩:=IV;have td:∀i j (ci cj:Ctx),i<j->j<k->S.reverse[i]? =some ci->S.reverse[j]? =some cj->((∃p∈ci,p.1∈Dw.getD j [])\/(∃p∈ci,∃q∈cj,p.1=q.1)\/(∃p∈cj,p.1∈Dw.getD i []))->i∈av.getD j []:=by
  intro i j ci cj KW hj h1 h2 h3;simp only[Dr,Ql,Qm,GM,UQ] at hc1;rcases hc1 j hj i KW with h|h
  .rw[key i ci h1,key j cj h2] at h;simp only[Ki] at h;exfalso;rcases h3 with⟨p,hp,h3⟩|⟨p,hp,q,hq,h3⟩|⟨p,hp,h3⟩
   .have:=W6 hp h3;rw[h.1.1] at this;cases this
   .have:=W6 (l:=(Kp cj).map (·.1)) hp (by rw[h3];exact BM.2 ⟨_,zb hq,rfl⟩);rw[h.1.2] at this;cases this
   .have:=W6 hp h3;rw[h.2] at this;cases this
  .exact h
 have lean:∀j (cj:Ctx),j<k->Dv.getD j true=true->S.reverse[j]? =some cj->∀p∈cj.take 1,(p.1∉L)/\∀i (ci:Ctx),i<k->S.reverse[i]? =some ci->∀q∈ci,p.1∈q.2.CD->(i≠j/\(q.1∈cj.map (·.1)\/j∈av.getD i []\/∃m,m∈av.getD j []/\i<m/\meets (kl.getD m []) [q.1]=true))\/(i=j/\∀p'∈cj.take 1,p'.1≠q.1):=by
  intro j cj hj hpj h1 p hp;have tk:(Kp cj).take 1=Kp (cj.take 1):=by simp[Kp,qe]
  simp only[Dr,Ql,Qm,GM,C9] at HH;rcases HH j hj with h|⟨h2,h3⟩
  .rw[hpj] at h;cases h
  .rw[key j cj h1,tk] at h2;refine⟨(λhm=>by have:=W6 hp hm;rw[h2] at this;cases this),λi ci hi h4 q hq h5=>?_⟩;have h6:=h3 i hi (q.1,q.2.CD) (by rw[key i ci h4];exact zb hq);have h6:=h6 p.1 h5;simp only[Qm,GM,C9,MU,ne_eq,UQ] at h6;rcases h6 with(h6|⟨h6,(h7|h7)|h7⟩)|⟨h6,h7⟩
   .have:=W6 (l:=[p.1]) hp (by simp);rw[key j cj h1,tk] at h6;rw[h6] at this;cases this
   .refine .inl ⟨h6,.inl ?_⟩;rw[key j cj h1] at h7;exact yM h7
   .exact .inl ⟨h6,.inr<| .inl h7⟩
   .let⟨m,hm,h8⟩:=iR.1 h7;simp[C9,WU] at h8;exact .inl ⟨h6,.inr<| .inr ⟨m,hm,h8.1,h8.2⟩⟩
   .refine .inr ⟨by simpa using h6,λp' hp' e=>?_⟩;rw[key j cj h1,tk] at h7;have:=W6 (l:=[q.1]) hp' (by simp[e]);rw[h7] at this;cases this
 have pure:∀i o,i<k->ops[i]? =some o->∃c,S.reverse[i]? =some c/\ac3 P N ops Γ (Dw.getD i []) (Dv.getD i true) S.reverse i o c:=by
  intro i o hi ho;have e1:Dw[i]? =some (Dw.getD i []):=by simp[JB,apZ,hi]
  have e2:Dv[i]? =some (Dv.getD i true):=by simp[JB,arH,hi]
  let⟨p,h1,h2⟩:=hat i o _ _ (by rw[List.getElem?_take_of_lt hi];simpa using ho) e1 e2;exact⟨p,by simpa using h1,by simpa using h2⟩
 have toTail:∀(fuel:Nat) (listed:BG Bool) (a:Act) (w:AR) (H:HV),listed.size=ops.size->(∀m,Dl listed m->∀j∈av.getD m [],Dl listed j)->(∀i,k<=i->i<ops.size-> ¬Dl listed i)->unl listed<=fuel->(∀j,j<k->Dl listed j)->Sat w0 H0 N (Ur listed S.reverse k Γ) a w H->Pl (Fx w0.rd) P ops Q fuel listed a w:=by
  intro fuel listed a w H hsz hc Ju hu hall BJ;refine KX fuel listed a w H hsz ?_ hc hu<|BJ.weaken ?_
  .intro j hj;constructor
   .intro h;apply Ck;intro hge;exact Ju j (by omega) hj h
   .exact hall j
  .intro q hq;have hat:=o9 (S:=S.reverse) (λj _=>rfl)<|Kr.looks q hq
   rw[hSl] at hat;rw[U3];rcases hat with⟨j,c,hj,h1,h1',h2⟩|⟨h1,h2⟩
   .exact .inl ⟨j,c,hj,hall j hj,h1,h1',λj' q' h3 h4 _ h5=>h2 j' q' h3 h4 h5⟩
   .exact .inr ⟨h1,λj q' h3 _ h5=>h2 j q' h3 h5⟩
 intro fuel
 induction fuel with
 |zero=>intro listed a w H hsz hc Ju hu BJ;exact toTail 0 listed a w H hsz hc Ju hu (λj hj=>yg (by omega) (by omega)) BJ
 |succ f ih=>
  intro listed a w H hsz hc Ju hu BJ;by_cases hall:∀j,j<k->Dl listed j
  .exact toTail (f+1) listed a w H hsz hc Ju hu hall BJ
  .have⟨j0,hj0,hn0⟩:∃j,j<k/\ ¬Dl listed j:=by apply Ck;intro auP;exact hall λj hj=>Ck λh=>auP ⟨j,hj,h⟩
   refine⟨λe=>absurd e (xD L3 hsz (by omega) hn0),λi hi=>?_⟩;let⟨o,ho,hni,_⟩:=(Vr hsz).1 hi;have TG:=(Sh.1 ho).1;have hil:i<listed.size:=hsz▸TG;have kS:=oe L3 hsz hc hi;by_cases hik:i<k
   .let⟨c,hp1,hp2⟩:=pure i o hik ho;let⟨Ai,hex,BI⟩:=hp2.exec;have hin:∀q∈Ai,q∈Ur listed S.reverse k Γ:=by
     intro q hq;let⟨hm,hx⟩:=BI q hq;have up:∀j' c',i<=j'->j'<k->Dl listed j'->S.reverse[j']? =some c'->∀q'∈c',q'.1≠q.1:=by
      intro j' c' h3 h4 h5 h6 q' hq' e;rcases Nat.lt_or_eq_of_le h3 with h3|h3
      .have:=td i j' c c' h3 h4 hp1 h6 (.inr<| .inr ⟨q',hq',e▸hm⟩);exact hni<|hc j' h5 i this
      .subst h3;exact hni h5
     refine U3.2 ?_;rcases hx with⟨j,cj,hj,hqj,hqc,NS⟩|⟨hx,NS⟩
     .refine .inl ⟨j,cj,by omega,kS j<|td j i cj c hj hik hqj hp1<| .inl ⟨q,hqc,hm⟩,hqj,hqc,λj' c' h3 h4 h5 h6=>?_⟩;rcases Hl j' i with h7|h7
      .exact NS j' c' h3 h7 h6
      .exact up j' c' h7 h4 h5 h6
     .refine .inr ⟨hx,λj' c' h4 h5 h6=>?_⟩;rcases Hl j' i with h7|h7
      .exact NS j' c' h7 h6
      .exact up j' c' h7 h4 h5 h6
    have KE:Dv.getD i true=true->∀q∈Ur listed S.reverse k Γ,q.1∉c.map (·.1)->∀p∈c.take 1,p.1∉q.2.CD:=by
     intro hpt q hq hnk p hp e;let⟨l1,l2⟩:=lean i c hik hpt hp1 p hp;rcases U3.1 hq with⟨j,cj,hj,hlj,hqj,hqc,NS⟩|⟨hq,_⟩
     .rcases(l2 j cj hj hqj q hqc e).resolve_right (λh=>by obtain⟨rfl,_⟩:=h;exact hni hlj)|>.2 with h|h
      .exact hnk h
      .rcases h with h|⟨m,hm,him,hme⟩
       .exact hni<|hc j hlj i h
       .have hlm:=kS m hm;have hmk:m<k:=by apply Ck;intro hge;exact Ju m (by omega) (hsz▸apT hlm) hlm
        let⟨cm,hcm,_⟩:=pure m ops[m] hmk (by simp<;>omega);rw[key m cm hcm] at hme;let⟨y,hy1,hy2⟩:=BM.1<|yM hme
        exact NS m cm (by omega) hmk hlm hcm y hy1 hy2
     .exact l1<|hL▸wX hq e
    have aX:Dv.getD i true=true->∀q∈c.take 1,∀p∈c.take 1,p.1∉q.2.CD:=by
     intro hpt q hq p hp e;rcases(lean i c hik hpt hp1 p hp).2 i c hik hp1 q (Qp hq) e with h|h
     .exact h.1 rfl
     .exact h.2 q hq rfl
    let⟨Γn,Ex,jl⟩:=hex _ hin KE aX;refine amC ho (nk Az (KC (i:=i) (by rw[List.getElem?_take_of_lt hik];simpa using ho)))<|Ex w0 H0 a w H BJ _ Q λa' w' H' KT=>?_
    refine ih _ _ w' H' (by simp[hsz]) ?_ ?_ ?_<|KT.weaken ?_
    .intro m hm x hx;rw[Qq hil] at hm⊢;rcases hm with hm|hm
     .subst hm;exact .inr<|kS x hx
     .exact .inr<|hc m hm x hx
    .intro m hm1 hm2;rw[Qq hil];rintro(h|h)
     .omega
     .exact Ju m hm1 hm2 h
    .have:=aBj hil hni;omega
    .intro q hq;refine jl q ?_;rcases U3.1 hq with⟨j,cj,hj,hlj,hqj,hqc,NS⟩|⟨hq,NS⟩
     .by_cases hji:j=i
      .subst hji;rw[hp1] at hqj;cases hqj;exact KB _ hqc
      .have ad0:Dl listed j:=by
        rw[Qq hil] at hlj;rcases hlj with h|h
        .exact absurd h hji
        .exact h
       refine WZ _ (Yz.2 ⟨U3.2 (.inl ⟨j,cj,hj,ad0,hqj,hqc,λj' q' h3 h4 h5 h6=>NS j' q' h3 h4 (by rw[Qq hil];exact .inr h5) h6⟩),λe=>?_⟩);let⟨p,hp,e⟩:=BM.1 e;rcases Hl i j with h7|h7
       .exact hni<|hc j ad0 i<|td i j c cj h7 hj hp1 hqj<| .inr<| .inl ⟨p,hp,q,hqc,e⟩
       .exact NS i c (by omega) hik (by rw[Qq hil];exact .inl rfl) hp1 p hp e
     .refine WZ _ (Yz.2 ⟨U3.2 (.inr ⟨hq,λj q' h4 h5 h6=>NS j q' h4 (by rw[Qq hil];exact .inr h5) h6⟩),λe=>?_⟩);let⟨p,hp,e⟩:=BM.1 e;exact NS i c hik (by rw[Qq hil];exact .inl rfl) hp1 p hp e
   .exfalso;exact hn0 (kS j0 (Uu i (by omega) TG j0 hj0))
def ai4{Γ:Ctx}(Az:Jf (ops.toList.take k)=true)(L3:O2 ops av=true)(IV:TJ k kl Dw Dv L av=true)(KS:Qu ops k av=true)
 (Ju:S.reverse.map Kp=kl)(hL:OZ Γ=L)
 (hp:Ev P N ops Γ [] (ops.toList.take k) Dw Dv S)(Kr:EU (S.flatten++Γ) ts GC)
 (KX:∀a w H,Sat w0 H0 N GC a w H->wpListIn (Fx w0.rd) 0 P ops Q (ops.toList.drop k) a w):∀(fuel:Nat) (listed:BG Bool) (a:Act) (w:AR) (H:HV),listed.size=ops.size->(∀m,Dl listed m->∀j∈av.getD m [],Dl listed j)->(∀i,k<=i->i<ops.size-> ¬Dl listed i)->unl listed<=fuel->Sat w0 H0 N (Ur listed S.reverse k Γ) a w H->Pl (Fx w0.rd) P ops Q fuel listed a w:=by
 have tF:=KS;simp[Qu,C9,Dr,Ql,Qm,WU,UQ] at tF;have hkn:k<=ops.size:=tF.1;refine ahL Az L3 IV hkn (λi hi hn j hj=>?_) Ju hL hp Kr λfuel listed a w H hsz hl hc hu hs=>ahU L3 KS _ k fuel listed a w rfl (BQ _) hkn hsz hl hc hu<|KX a w H hs
 rcases tF.2 i hn with h|h
 .omega
 .exact h j (by omega)
def aBd{Γ:Ctx}{id:Nat}(hm:P.follows .mixedOrders=true)(Az:Jf (ops.toList.take k)=true)(L3:O2 ops av=true)(IV:TJ k kl Dw Dv L av=true)(KS:Qu ops k av=true)
 (Ju:S.reverse.map Kp=kl)(hL:OZ Γ=L)
 (hp:Ev P N ops Γ [] (ops.toList.take k) Dw Dv S)(Kr:EU (S.flatten++Γ) ts GC)
 (KX:∀a w H,Sat w0 H0 N GC a w H->wpListIn (Fx w0.rd) 0 P ops Q (ops.toList.drop k) a w)
 {H:HV}(hs:Sat w0 H0 N Γ a w H):(Code.region id ops true).wpIn (Fx w0.rd) 0 P Q a w:=by
 refine aeI hm (ai4 Az L3 IV KS Ju hL hp Kr KX ops.size _ a _ H (by simp) ?_ ?_ ?_ ?_)
 .intro m h;exact absurd h lE
 .intro i _ hi h;exact absurd h lE
 .simp[unl]
 .have he:Ext w H {w with drawn:=w.drawn+1} H:=⟨⟨⟨rfl,rfl,rfl,BQ _,λ_ _=>rfl⟩,H9.of<|Qj _⟩,HV.le.refl _,λ_ _=>rfl,hs.sub⟩;refine(fi hs he).weaken λq hq=>?_
  rcases U3.1 hq with⟨j,_,_,hl,_⟩|⟨hq,_⟩
  .exact absurd hl lE
  .exact hq
end
section
variable[D:DR]
def Goal(P:CP)(w0:Ah P)(H0:HV)(N:Nat)(c:Code)(Q:Exit->Act->AR->Prop)(Γ:Ctx):Prop:=∀a w H,Sat w0 H0 N Γ a w H->c.wpIn (Fx w0.rd) 0 P Q a w
def EN{P:CP}(w0:Ah P)(H0:HV)(N:Nat)(K:Act->AR->Prop)(Γ:Ctx):Prop:=∀a w H,Sat w0 H0 N Γ a w H->K a w
end
section
variable[D:DR]
variable{P:Program}{w0:Ah P}{H0:HV}{N:Nat}{Q:Exit->Act->World->Prop}{Γ Aq:Ctx}
variable{w:AR}{ρ:Type}{a:Act}{fn:Func}{c:Code}{r:ρ}{H:HV}{id:Nat}{ts:A3 Nat}{n:Nat}{α:Type}{rs:A3 ResultVar}{x:Code}{t:Nat}{b:Bool}{K:α->A9 ρ}{args:A3 Ty}{E:Ap}{sz:Nat}{l:A3 Ty}
def A8{y:Code}(h:Goal P w0 H0 N x (Exit.then (y.wpIn (Fx w0.rd) 0 P Q) Q) Γ):Goal P w0 H0 N (.seq x y) Q Γ:=λa w H hs=>wpIn_seq<|h a w H hs
def zj{l:A3 Oper}(Az:Jf l=true)(h:JI P w0 N l.toArray l Γ Aq)(k:EN w0 H0 N (Q .normal) Aq):Goal P w0 H0 N (.region id l.toArray false) Q Γ:=λa w H hs=>wpIn_region_lit<|h.sound Az H0 a w H hs Q k
def apj{ops:BG Oper}{k:Nat}{S:A3 Ctx}{GC:Ctx}(Az:Jf ops.toList=true)(kl:A3 (A3<|Nat×A3 Nat))(L:A3 Nat)(av Dw:A3 (A3 Nat))(Dv:A3 Bool)(hm:P.follows .mixedOrders=true)(hc:(O2 ops av&&TJ k kl Dw Dv L av&&Qu ops k av)=true)
 (hp:Ev P N ops Γ [] (ops.toList.take k) Dw Dv S)(Ju:S.reverse.map Kp=kl)(hL:OZ Γ=L)(Kr:EU (S.flatten++Γ) ts GC)(KX:JI P w0 N ops (ops.toList.drop k) GC Aq)(kk:EN w0 H0 N (Q .normal) Aq):Goal P w0 H0 N (.region id ops true) Q Γ:=by
 simp[C9] at hc;have h1:Jf (ops.toList.take k)=true:=Dr.2 λo ho=>Dr.1 Az o<|Qp ho
 have h2:Jf (ops.toList.drop k)=true:=Dr.2 λo ho=>Dr.1 Az o<|UO ho
 exact λa w H hs=>aBd hm h1 hc.1.1 hc.1.2 hc.2 Ju hL hp Kr (H0:=H0) (λa w H hs=>KX.sound h2 H0 a w H hs Q kk) hs
def AF(k:EN w0 H0 N (Q .normal) Γ):Goal P w0 H0 N .skip Q Γ:=λa w H hs=>wpIn_skip<|k a w H hs
def AE(k:EN w0 H0 N (Q .ret) Γ):Goal P w0 H0 N .ret Q Γ:=λa w H hs=>wpIn_ret<|k a w H hs
def Al(k:EN w0 H0 N (Q<| .exit id) Γ):Goal P w0 H0 N (.exit id) Q Γ:=λa w H hs=>wpIn_exit<|k a w H hs
def AJ(h:Goal P w0 H0 N c (Exit.inBlock id Q) Γ):Goal P w0 H0 N (.block id c) Q Γ:=λa w H hs=>wpIn_block<|h a w H hs
def Uh{y:Code}(hl:look Γ t=some (.val<|Ay b))(hx:b=true->Goal P w0 H0 N x Q Γ)(hy:b=false->Goal P w0 H0 N y Q Γ):Goal P w0 H0 N (.cond (.tmp t) x y) Q Γ:=by
 intro a w H hs;have hv:Ae a t= .bool b:=hs.holds _<|BD hl
 exact wpIn_cond_split (t:=b) hv (λh=>hx h a w H hs)<|λh=>hy h a w H hs
def N2(h:EU Γ ts Aq)(k:Goal P w0 H0 N c Q Aq):Goal P w0 H0 N c Q Γ:=λa w H hs=>k a w H<|hs.weaken h.sub
def wp_loop_ghost{F:Fence}{ι:Type}(I:ι->Act->AR->Prop)(μ:ι->Nat)(i0:ι)(atB:I i0 a w)
 (round:∀i x y,I i x y->c.wpIn F n P (Exit.then (λa' w'=>∃j,I j a' w'/\μ j<μ i) Q) x y):(Code.loop c).wpIn F n P Q a w:=by
 intro b k cs hro hb hr;have key:∀n i a w,μ i=n->I i a w->∃e a' w',Q e a' w'/\ArrivesIn (Machine.fenced P F) P (lone (b.atR a (.code c:: .inLoop c::k)) cs w) b k cs e a' w':=by
  intro n
  induction n using Nat.strongRecOn with
  |_ n ih=>
   intro i a w hn hI;let⟨e,a1,w1,hq,TH⟩:=round i a w hI b (.inLoop c::k) cs hro hb hr;cases e with
   |normal=>let⟨j,hj,hlt⟩:=hq;let⟨e2,a2,w2,hq2,aro⟩:=ih (μ j) (hn▸hlt) j a1 w1 rfl hj;exact⟨e2,a2,w2,hq2,.of_steps (StepsIn.trans TH<| .one (fenced_calm hb hr rfl) stepR_inLoop) aro⟩
   |exit id=>exact⟨_,a1,w1,hq,.pass (x:= .inLoop c) rfl (λ_ _=> .inl (by simp)) TH⟩|goto l=>exact⟨_,a1,w1,hq,.pass (x:= .inLoop c) rfl (λ_ _=> .inl (by simp)) TH⟩|ret=>exact⟨_,a1,w1,hq,.pass (x:= .inLoop c) rfl (λ_ _=> .inl (by simp)) TH⟩|panic ch=>exact⟨_,a1,w1,hq,.pass (x:= .inLoop c) rfl (λ_ _=> .inl (by simp)) TH⟩|outgrown=>exact⟨_,a1,w1,hq,.pass (x:= .inLoop c) rfl (λ_ _=> .inl (by simp)) TH⟩
 let⟨e,a',w',hq,TH⟩:=key _ i0 a w rfl atB;exact⟨e,a',w',hq,.of_steps (.one (fenced_calm hb hr rfl) stepR_loop) TH⟩
theorem NA(h:IH w0 N Γ Aq)(k:Goal P w0 H0 N c Q Aq):Goal P w0 H0 N c Q Γ:=by grind [IH,Goal]
theorem EX{K:Act->AR->Prop}(h:IH w0 N Γ Aq)(k:EN w0 H0 N K Aq):EN w0 H0 N K Γ:=by grind [IH,EN]
def bd{α ρ:Type}(e:A9 α)(K:α->A9 ρ):A9 ρ:=match e with|none=>none|some x=>K x
def gC{ρ:Type}(c:Bool)(K:A9 ρ):A9 ρ:=match c with|true=>K|false=>none
def Ax{α ρ:Type}(g:Bool)(d:α)(e:A9 α)(K:α->A9 ρ):A9 ρ:=match g with|true=>bd e K|false=>K d
def jn{α ρ:Type}(K:α->A9 ρ)(E:(α->A9 ρ)->A9 ρ):A9 ρ:=E K
def lp{σ ρ:Type}:Nat->((σ->A9 ρ)->σ->A9 ρ)->σ->A9 ρ
 |0,_,_=>none|n+1,B,s=>B (lp n B) s
theorem Aw{e:A9 α}(h:bd e K=some r):∃x,e=some x/\K x=some r:=by(simp_all [bd]<;>grind)
def We{c:Bool}{K:A9 ρ}(h:gC c K=some r):c=true/\K=some r:=by
 cases c
 .cases h
 .exact⟨rfl,h⟩
def I6{g:Bool}{d:α}{e:A9 α}(h:Ax g d e K=some r):∃x,(g=true->e=some x)/\K x=some r:=by
 cases g
 .exact⟨d,(λe=>nomatch e),h⟩
 .let⟨x,h1,h2⟩:=Aw h;exact⟨x,λ_=>h1,h2⟩
def apw{x y:A9 ρ}{r:A9 ρ}(h:cond b x y=r)(hb:b=true):x=r:=by subst hb;exact h
def apx{x y:A9 ρ}{r:A9 ρ}(h:cond b x y=r)(hb:b=false):y=r:=by subst hb;exact h
def Mid{P:CP}{α ρ:Type}(w0:Ah P)(H0:HV)(N:Nat)(JO:α->Ctx)(k:α->A9 ρ)(r:ρ)(a:Act)(w:AR):Prop:=∃i,k i=some r/\∃H,Sat w0 H0 N (JO i) a w H
def Sl(JO:α->Ctx){E:(α->A9 ρ)->A9 ρ}(hm:jn K E=some r)
 (h:∀k,E k=some r->Goal P w0 H0 N x (Exit.then (Mid w0 H0 N JO k r) Q) Γ)(kk:∀i,K i=some r->EN w0 H0 N (Q .normal) (JO i)):Goal P w0 H0 N x Q Γ:=
 λa w H hs=>WE (h K hm a w H hs) λe a' w' q=>by cases e with|normal=>let⟨i,hi,H',DQ⟩:=q;exact kk i hi a' w' H' DQ|_=>exact q
def as3{JO:α->Ctx}{k:α->A9 ρ}{i:α}(hm:k i=some r)(h:EU Γ ts (JO i)):EN w0 H0 N (λa w=>Mid w0 H0 N JO k r a w) Γ:=λ_ _ H hs=>⟨i,hm,H,hs.weaken h.sub⟩
def abn{σ:Type}(Ai:σ->Ctx){B:(σ->A9 ρ)->σ->A9 ρ}{s0:σ}(hm:lp n B s0=some r)(h0:EU Γ ts (Ai s0))
 (round:∀(k:σ->A9 ρ) (s:σ),B k s=some r->Goal P w0 H0 N c (Exit.then (Mid w0 H0 N Ai k r) Q) (Ai s)):Goal P w0 H0 N (.loop c) Q Γ:=by
 intro a w H hs;refine wp_loop_ghost (λ(i:Nat×σ) a w=>lp i.1 B i.2=some r/\∃H,Sat w0 H0 N (Ai i.2) a w H) (λi=>i.1) (n,s0) ⟨hm,H,hs.weaken h0.sub⟩ ?_;rintro⟨m,s⟩ a w ⟨hl,H,hs⟩;cases m with
 |zero=>cases hl
 |succ m=>
  refine WE (round (lp m B) s hl a w H hs) λe a' w' q=>?_
  cases e with|normal=>let⟨i,hi,H',DQ⟩:=q;exact⟨(m,i),⟨hi,H',DQ⟩,Nat.lt_succ_self m⟩|_=>exact q
inductive Res where
 |vs(l:A3 Ty)|fr(E:Ap)(sz:Nat)(l:A3 Ty)
def LZ(H:HV):A3 Ty->AV->Prop
 |[τ],v=>τ.ok H v|l,v=>∃vs,v= .tuple vs/\Ee H l vs.toList
def Res.holds(n:Nat)(w:AR)(H:HV)(v:AV):Res->Prop
 | .vs l=>LZ H l v| .fr E sz l=>∃xs,w.ownsRow 0 E sz v l.length xs/\Db H l xs/\∀b,v.ownBlock=some b->n<=b/\H b=none
def Gq(P:CP)(f:FuncId):Bool:=
 match P.funcs[f]? with|some fn=>fn.body.isSome&& !(fn.name== "runtime.NumGoroutine")|none=>false
def Returns(w:AR)(H:HV)(Bs:Res)(e:Ending)(w':AR):Prop:=∃v,e= .returned v/\Fc w.heap.size w w'/\∃H',(∀r,r<w.heap.size->H' r=H r)/\(∀r o,H' r=some o->w'.heap[r]? =some o)/\Bs.holds w.heap.size w' H' v
structure Eg(P:CP)(f:FuncId)(args:A3 Ty)(Bs:Res):Prop where
 can:Gq P f=true
 run:∀(w:AR) (H:HV) (vs:A3 AV),(∀r o,H r=some o->w.heap[r]? =some o)->LY P H->Ee H args vs->Calls P f vs.toArray w (Returns w H Bs)
def Eg.asF{f:FuncId}{Bs:Res}(h: @Eg DR.strict P f args Bs):Eg P f args Bs:=⟨Eg.can (D:=DR.strict) h,λw H vs sub gl ha=>(Eg.run (D:=DR.strict) h w H vs sub gl ha).mono λe w' ⟨v,e1,hb,r⟩=>⟨v,e1,⟨Fc.toBelow (D:=DR.strict) hb,H9.of<|Fc.drawn (D:=DR.strict) hb⟩,r⟩⟩
def Hd:Nat->A3 Ty->Ctx
 |_,[]=>[]|i,τ::l=>(i,.val τ)::Hd (i+1) l
def eT{H:HV}{B:Ah P}{a:Act}{w:AR}:∀{l:A3 Ty} {vs:A3 AV} (i:Nat),Ee H l vs->(∀j v,vs[j]? =some v->Ae a (i+j)=v)->∀p∈Hd i l,p.2.holds B a w H (Ae a p.1)
 |[],_,_,_,_,p,hp=>by simp[Hd] at hp
 |τ::l,_,i,⟨v,rest,e,hv,hr⟩,hg,p,hp=>by
  subst e;simp[Hd,Am] at hp;rcases hp with e|hp
  .subst e;have:=hg 0 v rfl;simp[UF] at this;rw[this];exact hv
  .exact eT (i+1) hr (λj v hj=>by have:=hg (j+1) v (by simpa using hj);rw[<-this];congr 1;omega) p hp
def o5{w:AR}{v:AV}{b:Nat}:∀{l:A3 Ty} {i:Nat},∀p∈Hd i l,¬p.2.owns w v b
 |[],_,p,hp=>by simp[Hd] at hp
 |τ::l,i,p,hp=>by
  simp[Hd,Am] at hp;rcases hp with e|hp
  .subst e;exact λh=>h
  .exact o5 p hp
theorem yV{vs:A3 AV}(sub:∀r o,H r=some o->w.heap[r]? =some o)(gl:LY P H)(Az:Ee H args vs)(hn:args.length<=n):Sat (Ah.call P w) H n (Hd 0 args) {tmps:=vs.toArray++Array.replicate (n-vs.toArray.size) undef,defers:=[]} w H:=by
 have hl:=SO Az;refine⟨trivial,by simp;omega,⟨rfl,rfl,rfl,BQ _,BQ _,λ_ _ _ _=>rfl⟩,λ_ _ _ _=>rfl,sub,?_,?_,gl⟩
 .refine eT 0 Az λj v hj=>?_
  have Jv:=(FX.1 hj).1;have e:(vs.toArray++Array.replicate (n-vs.toArray.size) undef)[0+j]? =some v:=by grind
  simp[Ae,UT];simp at e;rw[e];rfl
 .intro p hp q _ _ b hb;exact absurd hb<|o5 p hp
inductive AZ(P:CP)(Γ:Ctx):A3 ResultVar->A3 Ty->Prop where
 |nil:AZ P Γ [] []|tmp {t:Nat} {τ Gx:Ty} {rs:A3 ResultVar} {l:A3 Ty} (h:look Γ t=some (.val τ)) (hi:τ=Gx) (r:AZ P Γ rs l):AZ P Γ (.tmp t::rs) (Gx::l)
 |cell {t T:Nat} {T':Ap} {τ Gx:Ty} {rs:A3 ResultVar} {l:A3 Ty} (h:look Γ t=some (.own T' τ)) (hT:∀(w:AR) (b:Nat) (x:AV) (E:Ap),w.heap[b]? =some (.cells x.cells E (0,0))->Shape τ.n τ.agg x->(loadVar T ⟨b,0,none⟩).run P w= .ok x w)
   (hi:τ=Gx) (r:AZ P Γ rs l):AZ P Γ (.cell t T::rs) (Gx::l)
def Yg(tmps:BG AV):ResultVar->Sem AV
 | .tmp t=>pure<|tmps.getD t undef| .cell a t=>do loadVar t (<-asAddr (tmps.getD a undef))
theorem Wh{bl:A3 Ty}{H':HV}{B:Ah P}{v:AV}(h:(AS.buf E sz bl).holds B a w H v)(hle:HV.le H H')(hw:∀b,v.ownBlock=some b->B.EH b->∀o,w.heap[b]? =some o->H' b=some o):(GJ bl).ok H' v:=by
 let⟨xs,⟨hx,hc⟩,ho,hn⟩:=h;rcases hc with⟨e,hl⟩|⟨g,cap,cur,e,hB,hg,hcap,hm,hcs,ht⟩
 .subst e;exact⟨none,0,by rw[hl],by omega,λhne=>absurd (LU hl) hne⟩
 .subst e;refine⟨_,cap,rfl,hcap,λ_=>⟨g,0,cur,E,(0,0),rfl,hw g rfl (hn g rfl).2 _ hg,?_,?_⟩⟩
  .have h1:=N6 ho;have h2:xs.length<=cur.size:=by grind
   omega
  .have h1:=N6 ho;rw[Pg,<-h1,hx,ht];exact QW hle ho
def AZ.run{rs:A3 ResultVar}{l:A3 Ty}(h:AZ P Γ rs l){a:Act}{w:AR}{H:HV}(hs:Sat w0 H0 N Γ a w H):∃vs,(rs.mapM<|Yg a.tmps).run P w= .ok vs w/\Ee H l vs:=by
 induction h with
 |nil=>exact⟨[],by simp,rfl⟩
 | @tmp t τ Gx rs l h hi _ ih=>
  subst hi;let⟨vs,h1,h2⟩:=ih;have hv:τ.ok H (Ae a t):=hs.holds _<|BD h
  refine⟨Ae a t::vs,?_,_,_,rfl,hv,h2⟩;simp only[List.mapM_cons,E6,h1,Yg,K7,Dt]
  rfl
 | @cell t T T' τ Gx rs l h hT hi _ ih=>
  subst hi;let⟨vs,h1,h2⟩:=ih;let⟨b,x,e,hb,hx,hn,hB⟩:=hs.holds _<|BD h
  refine⟨x::vs,?_,_,_,rfl,hx,h2⟩;have e':a.tmps.getD t undef= .pointer (some ⟨b,0,none⟩):=e;simp[List.mapM_cons,E6,Yg,e',asAddr,K7,Dt,hT w b x T' hb<|τ.shape hx,h1]
def RA(P:CP)(fn:Func)(w0:Ah P)(H0:HV)(Bs:Res):Exit->Act->AR->Prop:=bodyPostM (Fx none) 0 P fn<|Returns w0.w H0 Bs
def Vd{w0:Ah P}{H0:HV}{N:Nat}{Γ:Ctx}{a:Act}{fn:Func}{R:Ending->AR->Prop}{F:Fence}{n:Nat}(hds:w0.ds=[])(hrd:w0.rd=none):∀{ds:A3 Deferred} {w:AR} {H:HV},Sat w0 H0 N Γ {a with defers:=ds} w H->(∀w' H',Sat w0 H0 N Γ {a with defers:=[]} w' H'->∃v,(results fn a.tmps).run P w'= .ok v w'/\R (.returned v) w')->LeavesInM F n P fn a.tmps R ds .returning w
 |[],w,H,hs,k=>k w H hs
 |d::ds,w,H,hs,k=>by
  have IV:=hs.nd;rw[hds,K9] at IV;let⟨⟨D,e,h1,h2,h3,h4⟩,hr⟩:=IV;have h1:=h1 hrd;subst e;refine⟨(by simp),.inl ⟨D,_,rfl,run_takeDeferred h2,?_⟩⟩;refine Vd hds hrd (H:=H) ?_ k;have hg:Ef w (w.putObj D<| .deferred none) (some D):=⟨⟨rfl,rfl,rfl,by simp,λj _ hj=>Zr (λe=>hj (by rw[e]))⟩,BQ _⟩;have hne:∀b,b≠D->(w.putObj D<| .deferred none).heap[b]? =w.heap[b]? :=λb hb=>Zr hb
  refine Vy (a:={a with defers:={target:= .collected D,args:= #[]}::ds}) hs (hs.below.Lb hg λj e=>by cases e;exact .inl h1) hg.drawn (λ_ _ _ _=>rfl) (by simp) (HV.le.refl _) ?_ ?_ ?_ ?_
  .intro r o h;rw[hne r (λe=>by subst e;rw[h3] at h;cases h)];exact hs.sub r o h
  .intro _ b _ hb;exact⟨hne b (λe=>by subst e;have:=Ah.lo_le (b:=w0);omega),rfl⟩
  .intro p hp;refine⟨hp,λb hb=>⟨hne b λe=>?_,rfl⟩⟩;subst e;let⟨_,_,o,ho,Jt⟩:=AS.J9 (hs.holds p hp) hb;rw[h2] at ho;cases ho;exact Jt
  .have:∀{l:A3 Deferred},(∀e∈l,e≠{target:= .collected D,args:= #[]})->Marks w0 w H l->Marks w0 (w.putObj D<| .deferred none) H l:=by
    intro l
    induction l with
    |nil=>exact λ_ _=>trivial
    |cons x l ih=>
     rintro hn ⟨⟨D',e,g1,g2,g3,g4⟩,gr⟩;have hD:D'≠D:=λeD=>hn x (by simp) (by rw[e,eD])
     exact⟨⟨D',e,g1,by rw[hne D' hD];exact g2,g3,g4⟩,ih (λy hy=>hn y (by simp[hy])) gr⟩
   rw[hds,K9];exact this h4 hr
def YZ(hr:fn.results=rs.toArray)(tmps:BG AV):results fn tmps=(do let vs<-List.toArray<$>rs.mapM (Yg tmps);pure (if h:vs.size=1 then vs[0] else .tuple vs)):=by
 unfold results;rw[hr,List.mapM_toArray]
 congr 2
def an1{Bs:A3 Ty}(hX:(w0.X,w0.Iv,w0.ds,w0.rd)=(KR,false,[],none))(hr:fn.results=rs.toArray)(h:AZ P Γ rs Bs)(hs:Sat w0 H0 N Γ a w H):LeavesInM (Fx none) 0 P fn a.tmps (Returns w0.w H0<| .vs Bs) a.defers .returning w:=by
 refine Vd (congrArg (λp=>p.2.2.1) hX) (congrArg (λp=>p.2.2.2) hX) (a:=a) (ds:=a.defers) hs λw H hs=>?_
 have hX':w0.X=KR:=congrArg Prod.fst hX;have hV:w0.Iv=false:=congrArg (λp=>p.2.1) hX;let⟨vs,h1,h2⟩:=h.run hs;have hl:=SO h2;rw[YZ hr];simp only[E6,Sem.run_map,h1,Dt,K7];refine⟨_,rfl,_,rfl,hs.below.below hX' hV,H,(λr hr=>hs.Fj hV r hr (by rw[hX'];exact λh=>h)),hs.sub,?_⟩
 match Bs,h2,hl with
 |[],h2,hl=>have:vs=[]:=h2;subst this;exact⟨#[],rfl,rfl⟩
 |[τ],h2,hl=>let⟨v,rest,e,hv,hr⟩:=h2;have:rest=[]:=hr;subst this;subst e;exact hv
 |τ::Gx::l,h2,hl=>
  have: ¬vs.toArray.size=1:=by simp[hl]
  rw[dif_neg this];exact⟨vs.toArray,rfl,by simpa using h2⟩
def ahp{l':A3 Ty}(hX:(w0.X,w0.Iv,w0.ds,w0.rd)=(KR,false,[],none))(hr:fn.results=[.tmp t].toArray)(h:look Γ t=some (.buf E sz l))(hi:l=l')(hs:Sat w0 H0 N Γ a w H):LeavesInM (Fx none) 0 P fn a.tmps (Returns w0.w H0<| .fr E sz l') a.defers .returning w:=by
 subst hi;refine Vd (congrArg (λp=>p.2.2.1) hX) (congrArg (λp=>p.2.2.2) hX) (a:=a) (ds:=a.defers) hs λw H hs=>?_
 have hX':w0.X=KR:=congrArg Prod.fst hX;have hV:w0.Iv=false:=congrArg (λp=>p.2.1) hX;let⟨xs,h1,h2,h3⟩:=hs.holds _<|BD h
 rw[YZ hr];refine⟨Ae a t,?_,_,rfl,hs.below.below hX' hV,H,(λr hr=>hs.Fj hV r hr (by rw[hX'];exact λh=>h)),hs.sub,xs,h1,h2,λb hb=>⟨?_,(h3 b hb).1⟩⟩
 .simp[Yg,Ae]
 .rcases(h3 b hb).2 with h|h
  .exact h
  .rw[hX'] at h;exact h.elim
def Cc{Bs:A3 Ty}(hX:(w0.X,w0.Iv,w0.ds,w0.rd)=(KR,false,[],none))(hr:fn.results=rs.toArray)(h:AZ P Γ rs Bs):EN w0 H0 N (λa w=>RA P fn w0 H0 (.vs Bs) .ret a w) Γ:=λ_ _ _ hs=>an1 hX hr h hs
def Wr{l':A3 Ty}(hX:(w0.X,w0.Iv,w0.ds,w0.rd)=(KR,false,[],none))(hr:fn.results=[.tmp t].toArray)(h:look Γ t=some (.buf E sz l))(hi:l=l'):EN w0 H0 N (λa w=>RA P fn w0 H0 (.fr E sz l') .ret a w) Γ:=λ_ _ _ hs=>ahp hX hr h hi hs
def ahX{f:FuncId}{Bs:Res}{N:Nat}(hf:P.funcs[f]? =some fn)(hb:fn.body=some c)(hN:fn.ntmps=N)(hn:args.length<=N)(hc:Gq P f=true)
 (h:∀w0 H0,Goal P (Ah.call P w0) H0 N c (RA P fn (Ah.call P w0) H0 Bs)<|Hd 0 args):Eg P f args Bs:=by
 subst hN;exact⟨hc,λw H _ sub gl Az=>(callsIn_wide (n:=0)).1<|callsIn_of_wp_marks (F:=Fence.wide) hf hb trivial<|h w H _ w H<|yV sub gl Az hn⟩
end
section
variable[D:DR]
variable{P:Program}{N:Nat}{ops:Array Oper}{Γ Aq:Ctx}
variable{s:AS}{τ:Ty}
def MM{o:Oper}(h:∀(w0:Ah P) (H0:HV) (N:Nat) (a:Act) (w:AR) (H:HV),Sat w0 H0 N Γ a w H->∃v w' H',(execOp a.eval o).run P w= .ok (.value v) w'/\Ext w H w' H'/\s.holds w0 a w' H' v/\∀b,s.owns w' v b->w.heap.size<=b):B0 P Γ o s:=by intro w0 H0 N a w H hs K Q k;let⟨v,w',H',hr,he,hv,hb⟩:=h w0 H0 N a w H hs;unfold Oper.wp;rw[hr,OW];exact k v w' H' he hv hb
def Dp{o:Oper}(h:∀(w0:Ah P) (H0:HV) (N:Nat) (a:Act) (w:AR) (H:HV),Sat w0 H0 N Γ a w H->∃v,(execOp a.eval o).run P w= .ok (.value v) w/\s.holds w0 a w H v/\s.free=true):B0 P Γ o s:=
 MM λw0 H0 N a w H hs=>by let⟨v,hr,hv,hb⟩:=h w0 H0 N a w H hs;exact⟨v,w,H,hr,Ext.refl hs.sub,hv,λb e=>absurd e<|AS.free_spec hb⟩
def ajP{o:Oper}(h:∀(w0:Ah P) (H0:HV) (N:Nat) (a:Act) (w:AR) (H:HV),Sat w0 H0 N Γ a w H->∃v,(execOp a.eval o).run P w= .ok (.value v) w/\s.holds w0 a w H v/\∀b,¬s.owns w v b):B0 P Γ o s:=
 MM λw0 H0 N a w H hs=>by let⟨v,hr,hv,hb⟩:=h w0 H0 N a w H hs;exact⟨v,w,H,hr,Ext.refl hs.sub,hv,λb e=>absurd e<|hb b⟩
structure Arg(Γ:Ctx)(x:CR)(τ:Ty):Prop where
 ok:∀{P':CP} {w0:Ah P'} {H0:HV} {N:Nat} {a:Act} {w:AR} {H:HV},Sat w0 H0 N Γ a w H->τ.ok H (a.eval x)
def Arg.t{t:Nat}{τ:Ty}(h:look Γ t=some (.val τ)):Arg Γ (.tmp t) τ:=⟨λhs=>hs.holds _<|BD h⟩
def Arg.o{t:Nat}{c:Bool}(h:look Γ t=some (.opt c<| .val τ))(hc:c=true):Arg Γ (.tmp t) τ:=⟨λhs=>(hs.holds _<|BD h).1 hc⟩
def Arg.int{k:IntKind}{n:Int}:Arg Γ (.const<| .int k n) (TI k n):=⟨λ_=>rfl⟩
def Arg.bool{b:Bool}:Arg Γ (.const<| .bool b) (Ay b):=⟨λ_=>rfl⟩
def Arg.aqv:Arg Γ (.const<| .slice none 0 0) (GJ []):=⟨λ_=>⟨none,0,rfl,BQ _,λh=>absurd rfl h⟩⟩
def Arg.imp{x:CR}{Gx:Ty}(h:Arg Γ x τ)(hi:∀H v,τ.ok H v->Gx.ok H v):Arg Γ x Gx:=⟨λhs=>hi _ _<|h.ok hs⟩
end
section
variable[D:DR]
variable{P:Program}{N:Nat}{ops:Array Oper}{Γ Aq:Ctx}
variable{d:Option Tmp}{ty:TypeId}{pos:String}{af:Array Edge}{g:Option (Nat×Bool)}
variable{T:Ap}{τ:Ty}{t sz off:Nat}{x:CR}{l:A3 Ty}{b:Bool}{σ:Ty}{k:IntKind}{i:Int}{n:Nat}{T':Ap}{len:Nat}{c:CR}{w:AR}{cs:BG AV}{t' o:Nat}{H:HV}{ix:CR}
def gk(h:Arg Γ x τ):B0 P Γ ⟨d,.move x,ty,pos,af,g⟩ (.val τ):=Dp λ_ _ _ a _ _ hs=>⟨a.eval x,rfl,h.ok hs,rfl⟩
def BO(h:Arg Γ x τ):B0 P Γ ⟨d,.assign x,ty,pos,af,g⟩ (.val τ):=Dp λ_ _ _ a _ _ hs=>⟨a.eval x,rfl,h.ok hs,rfl⟩
def PU(h:look Γ t=some (.tup l)):B0 P Γ ⟨d,.move<| .tmp t,ty,pos,af,g⟩ (.tup l):=Dp λ_ _ _ a _ _ hs=>⟨Ae a t,rfl,hs.holds _<|BD h,rfl⟩
def Hk{i:Nat}(h:look Γ t=some (.tup l))(hi:l[i]? =some τ):B0 P Γ ⟨d,.extract (.tmp t) i,ty,pos,af,g⟩ (.val τ):=
 Dp λ_ _ _ a w _ hs=>by
  let⟨vs,e,ho⟩:=hs.holds _<|BD h
  let⟨v,hv,Az⟩:=aba ho hi;have e':a.eval (.tmp t)= .tuple vs:=e;refine⟨v,?_,Az,rfl⟩;have JT:vs[i]? =some v:=by simpa using hv
  simp[execOp,e',Instr.extract,JT]
def gj{y:CR}(hc:Arg Γ c (Ay b))(hx:b=true->Arg Γ x τ)(hy:b=false->Arg Γ y τ):B0 P Γ ⟨d,.pick c x y,ty,pos,af,g⟩ (.val τ):=
 Dp λ_ _ _ a w H hs=>by
  have e:a.eval c= .bool b:=hc.ok hs;refine⟨if b then a.eval x else a.eval y,?_,?_,rfl⟩
  .simp[execOp,e,asBool]
  .cases b
   .simpa[AS.holds] using(hy rfl).ok hs
   .simpa[AS.holds] using(hx rfl).ok hs
def Cd(h:b=true):gd b true=true:=h
def DF(h:b=false):gd b false=true:=by subst h;rfl
def Oq{c:Bool}(h:b=true)(k:c=true):(b&&c)=true:=by subst h;subst k;rfl
def Ca{e x:Bool}(hc:Arg Γ c (Ay b))(hx:look Γ t=some (.opt e<| .val<|Ay x))(he:b=true->e=true):B0 P Γ ⟨d,.pick c (.tmp t)<| .const<| .bool false,ty,pos,af,g⟩ (.val<|Ay<|b&&x):=by
 cases b
 .exact gj hc (λh=>by cases h)<|λ_=>Arg.bool
 .exact gj hc (λ_=>by simpa using Arg.o hx (he rfl)) (λh=>by cases h)
def DD{e x:Bool}(hc:Arg Γ c (Ay b))(hx:look Γ t=some (.opt e<| .val<|Ay x))(he:b=false->e=true):B0 P Γ ⟨d,.pick c (.const<| .bool true)<| .tmp t,ty,pos,af,g⟩ (.val<|Ay (b||x)):=by
 cases b
 .exact gj hc (λh=>by cases h) (λ_=>by simpa using Arg.o hx (he rfl))
 .exact gj hc (λ_=>Arg.bool) (λh=>by cases h)
def avn:TypeDesc->Bool
 | .struct _| .array _ _=>true|_=>false
def Bv(P:CP)(T:Ap)(n:Nat)(agg:Bool):Bool:=
 match P.info? T,P.underlying T with|some i,some d=>Nat.beq i.size n&&(avn d==agg)&&(agg||Nat.beq n 1)|_,_=>false
def Ey{d:TypeDesc}(h:P.underlying T=some d)(w:AR):(underlying T).run P w= .ok d w:=by simp[underlying,program,Sem.run,h]
theorem za{agg:Bool}(h:Bv P T n agg=true):(∀w,(isAgg T).run P w= .ok agg w)/\(∀w,(Go.sizeOf T).run P w= .ok n w)/\(agg=false->n=1):=by
 unfold Bv at h;split at h
 .rename_i i dd hi hu;simp only[C9,Qm,Qh] at h;let⟨⟨h1,h2⟩,h3⟩:=h;have h1:=EF h1;refine⟨λw=>?_,λw=>?_,λhf=>?_⟩
  .simp[isAgg,E6,Ey hu,Dt];subst h2;cases dd<;>rfl
  .simp[Go.sizeOf,typeInfo,program,Sem.run,hi];simp[h1]
  .rcases h3 with h3|h3
   .grind
   .exact EF h3
 .cases h
theorem Rp{agg:Bool}(h:Bv P T n agg=true){b:Nat}{E:Ap}{fr:Nat×Nat}(hb:w.heap[b]? =some (.cells cs E fr))(hl:off+n<=cs.size):(loadVar T ⟨b,off,none⟩).run P w= .ok (H6 agg ((cs.toList.drop off).take n).toArray) w:=by
 let⟨h1,h2,h3⟩:=za h;have acV:∀j v,((cs.toList.drop off).take n)[j]? =some v->w.cell? ((⟨b,off,none⟩:Addr).add j)=some v:=by
  intro j v hj;have bE:(⟨b,off,none⟩:Addr).add j=⟨b,off+j,none⟩:=by unfold Addr.add;split<;>simp_all
  rw[bE];rw[WX] at hj;split at hj
  .simp at hj;simp[World.cell?,hb,hj]
  .cases hj
 have hlen:((cs.toList.drop off).take n).length=n:=by simp;omega
 cases agg
 .have hn:=h3 rfl;subst hn;have hlt:off<cs.size:=by omega
  have hc:=acV 0 cs[off] (by simp[hlt]);have bE:(⟨b,off,none⟩:Addr).add 0=⟨b,off,none⟩:=rfl;rw[bE] at hc;simp[loadVar,E6,h1,Dt];simp[load,Sem.run,hc,H6,hlt]
 .have:=run_loadCells_list (P:=P) w ⟨b,off,none⟩ _ acV;rw[hlen] at this;simp[loadVar,E6,h1,h2,Dt,if_true,this]
  rfl
def xl{x:AV}(hn:x.cells.size=n):((x.cells.toList.drop 0).take n).toArray=x.cells:=by rw[Pg,D6 (by simp;omega)]
def FY{agg:Bool}(h:Bv P T n agg=true)(w:AR)(b:Nat)(x:AV)(E:Ap)(hb:w.heap[b]? =some (.cells x.cells E (0,0)))(hx:Shape n agg x):(loadVar T ⟨b,0,none⟩).run P w= .ok x w:=by rw[Rp h hb (by rw[hx.size];omega),xl hx.size,<-hx.eq]
def BZ(τ:Ty)(off:Nat)(σ:Ty):Prop:=∀(H:HV) (v:AV),τ.ok H v->off+σ.n<=v.cells.size/\σ.ok H (H6 σ.agg ((v.cells.toList.drop off).take σ.n).toArray)
def BZ.agg{i:Nat}(h:l[i]? =some σ)(ho:CS (l.take i)=off):BZ (DH l) off σ:=by rintro H v ⟨cs,e,ok⟩;subst e;subst ho;have:=Nb ok h;simpa[Value.cells] using this
def YF:(H6 true cs).cells=cs:=rfl
def BZ.trans{ρ:Ty}{o1 o2:Nat}(h:BZ τ o1 σ)(ha:σ.agg=true)(k:BZ σ o2 ρ):BZ τ (o1+o2) ρ:=λH v hv=>by
 let⟨h1,h2⟩:=h H v hv;let⟨k1,k2⟩:=k H _ h2;rw[ha] at k1 k2;simp only[YF] at k1 k2;have hlen:(List.take σ.n<|List.drop o1 v.cells.toList).toArray.size=σ.n:=by simp;omega
 rw[hlen] at k1;refine⟨by omega,?_⟩;have:List.take ρ.n (List.drop o2<|List.take σ.n<|List.drop o1 v.cells.toList)=List.take ρ.n (List.drop (o1+o2) v.cells.toList):=by
  rw[MX,OV,Fe]
  congr 1
  omega
 simpa[this] using k2
def Ao(h:look Γ t=some (.own T' τ))(hT:Bv P T τ.n τ.agg=true):B0 P Γ ⟨d,.load T<| .tmp t,ty,pos,af,g⟩ (.val τ):=
 Dp λ_ _ _ a w _ hs=>by
  let⟨b,x,e,hb,hx,_,_⟩:=hs.holds _<|BD h
  have e':a.eval (.tmp t)= .pointer (some ⟨b,0,none⟩):=e;refine⟨x,?_,hx,rfl⟩;simp[execOp,e',Instr.loadAt,Instr.sureAddr,FY hT w b x T' hb<|τ.shape hx]
def Fo(h:look Γ t=some (.ptr t' off))(h':look Γ t'=some (.own T' τ))(hp:BZ τ off σ)(hT:Bv P T σ.n σ.agg=true):B0 P Γ ⟨d,.load T<| .tmp t,ty,pos,af,g⟩ (.val σ):=
 Dp λ_ _ _ a w _ hs=>by
  let⟨b,x,e,hb,hx,_,_⟩:=hs.holds _<|BD h'
  let⟨b',e1,e2⟩:=hs.holds _<|BD h
  simp only at e e1;rw[e] at e1;cases e1;have e':a.eval (.tmp t)= .pointer (some ⟨b,off,none⟩):=e2;let⟨h1,h2⟩:=hp _ _ hx;refine⟨_,?_,h2,rfl⟩;simp[execOp,e',Instr.loadAt,Instr.sureAddr,Rp hT hb h1]
def Bc(h:Arg Γ x (Jl τ))(hT:Bv P T τ.n τ.agg=true):B0 P Γ ⟨d,.load T x,ty,pos,af,g⟩ (.val τ):=
 Dp λ_ _ _ a w _ hs=>by let⟨b,off,cs,E,fr,e,hb,hl,hx⟩:=h.ok hs;refine⟨_,?_,hx,rfl⟩;simp[execOp,e,Instr.loadAt,Instr.sureAddr,Rp hT (hs.sub _ _ hb) hl]
def Gf(P:CP)(T:Ap)(k off:Nat):Bool:=
 match P.underlying T with
 |some (.struct fs)=>match fs[k]? with
  |some f=>Nat.beq f.offset off&&(match P.info? f.type with|some i=> !Nat.beq i.size 0|none=>false)
  |none=>false
 |_=>false
theorem addr_add(b off n:Nat):(⟨b,off,none⟩:Addr).add n=⟨b,off+n,none⟩:=by unfold Addr.add;split<;>simp_all
def YP{k:Nat}(h:Gf P T k off=true)(b o:Nat)(w:AR):(Instr.fieldAt T (.pointer<|some ⟨b,o,none⟩) k).run P w= .ok (.pointer<|some ⟨b,o+off,none⟩) w:=by
 unfold Gf at h;split at h
 .rename_i fs hu;split at h
  .rename_i f hf;simp only[C9] at h;let⟨h1,h2⟩:=h;have h1:=EF h1;split at h2
   .rename_i i hi;have hne:i.size≠0:=by intro e;rw[e] at h2;simp at h2
    simp[Instr.fieldAt,Ey hu,hf,Instr.sureAddr,fieldPlace,Go.sizeOf,typeInfo,program,Sem.run,hi,hne,addr_add,h1]
   .cases h2
  .cases h
 .cases h
def G2{k:Nat}(h:look Γ t=some (.own T' τ))(hf:Gf P T k off=true):B0 P Γ ⟨d,.fieldAddr T (.tmp t) k,ty,pos,af,g⟩ (.ptr t off):=
 Dp λ_ _ _ a w _ hs=>by
  let⟨b,x,e,hb,hx,_,_⟩:=hs.holds _<|BD h
  have e':a.eval (.tmp t)= .pointer (some ⟨b,0,none⟩):=e;exact⟨.pointer<|some ⟨b,0+off,none⟩,by simp[execOp,e',YP hf],⟨b,e,by simp⟩,rfl⟩
def PE{k:Nat}(h:look Γ t=some (.ptr t' o))(hf:Gf P T k off=true):B0 P Γ ⟨d,.fieldAddr T (.tmp t) k,ty,pos,af,g⟩ (.ptr t'<|o+off):=
 Dp λ_ _ _ a w _ hs=>by
  let⟨b,e1,e2⟩:=hs.holds _<|BD h
  have e':a.eval (.tmp t)= .pointer (some ⟨b,o,none⟩):=e2;exact⟨.pointer<|some ⟨b,o+off,none⟩,by simp[execOp,e',YP hf],⟨b,e1,rfl⟩,rfl⟩
def akQ(hp:BZ τ o σ){b:Nat}{E:Ap}{fr:Nat×Nat}(hb:H b=some (.cells cs E fr))(hl:off+τ.n<=cs.size)(ha:τ.agg=true)(hx:τ.ok H (H6 τ.agg ((cs.toList.drop off).take τ.n).toArray)):(Jl σ).ok H (.pointer<|some ⟨b,off+o,none⟩):=by
 rw[ha] at hx;let⟨h1,h2⟩:=hp _ _ hx;simp only[YF] at h1 h2;have hlen:(List.take τ.n<|List.drop off cs.toList).toArray.size=τ.n:=by simp;omega
 rw[hlen] at h1;refine⟨b,off+o,cs,E,fr,rfl,hb,by omega,?_⟩;have:List.take σ.n (List.drop o<|List.take τ.n<|List.drop off cs.toList)=List.take σ.n (List.drop (off+o) cs.toList):=by
  rw[MX,OV,Fe]
  congr 1
  omega
 simpa[this] using h2
def MJ{k:Nat}(h:Arg Γ x (Jl τ))(ha:τ.agg=true)(hp:BZ τ off σ)(hf:Gf P T k off=true):B0 P Γ ⟨d,.fieldAddr T x k,ty,pos,af,g⟩ (.val<|Jl σ):=
 Dp λ_ _ _ a w _ hs=>by let⟨b,o,cs,E,fr,e,hb,hl,hx⟩:=h.ok hs;exact⟨.pointer<|some ⟨b,o+off,none⟩,by simp[execOp,e,YP hf],akQ hp hb hl ha hx,rfl⟩
def Lf(P:CP)(T:Ap)(len sz:Nat):Bool:=
 match P.underlying T with
 |some (.array n e)=>Nat.beq n len&&(match P.info? e with|some i=>Nat.beq i.size sz|none=>false)
 |_=>false
def GP(P:CP)(T:Ap)(sz:Nat):Bool:=
 match P.underlying T with
 |some (.slice e)=>(match P.info? e with|some i=>Nat.beq i.size sz|none=>false)
 |_=>false
def pN(h:Lf P T len sz=true):∃e i,P.underlying T=some (.array len e)/\P.info? e=some i/\i.size=sz:=by
 unfold Lf at h;split at h
 .rename_i n e hu;simp only[C9] at h;let⟨h1,h2⟩:=h;have h1:=EF h1;subst h1;split at h2
  .rename_i i hi;exact⟨e,i,hu,hi,EF h2⟩
  .cases h2
 .cases h
def py(h:GP P T sz=true):∃e i,P.underlying T=some (.slice e)/\P.info? e=some i/\i.size=sz:=by
 unfold GP at h;split at h
 .rename_i e hu;split at h
  .rename_i i hi;exact⟨e,i,hu,hi,EF h⟩
  .cases h
 .cases h
def ub(h:Lf P T len sz=true)(b o:Nat)(h0:0<=i)(h1:i<len)(w:AR):(Instr.indexAt T (.pointer<|some ⟨b,o,none⟩)<| .int k i).run P w= .ok (.pointer<|some ⟨b,o+i.toNat*sz,none⟩) w:=by let⟨e,ii,hu,hi,hs⟩:=pN h;simp[Instr.indexAt,asIntOf,Ey hu,Instr.sureAddr,h0,h1,Go.sizeOf,typeInfo,program,Sem.run,hi,hs,addr_add]
def lZ(h:GP P T sz=true)(b o len cap:Nat)(h0:0<=i)(h1:i<len)(w:AR):(Instr.indexAt T (.slice (some ⟨b,o,none⟩) len cap)<| .int k i).run P w= .ok (.pointer<|some ⟨b,o+i.toNat*sz,none⟩) w:=by let⟨e,ii,hu,hi,hs⟩:=py h;simp[Instr.indexAt,asIntOf,Ey hu,h0,h1,Go.sizeOf,typeInfo,program,Sem.run,hi,hs,addr_add]
def w6(h:look Γ t=some (.own T' τ))(hT:Lf P T len sz=true)(hi:Arg Γ ix (TI k i))(h0:0<=i)(h1:i<len):B0 P Γ ⟨d,.indexAddr T (.tmp t) ix,ty,pos,af,g⟩ (.ptr t<|i.toNat*sz):=
 Dp λ_ _ _ a w _ hs=>by
  let⟨b,x,e,hb,hx,_,_⟩:=hs.holds _<|BD h
  have e':a.eval (.tmp t)= .pointer (some ⟨b,0,none⟩):=e;have ei:a.eval ix= .int k i:=hi.ok hs;exact⟨.pointer<|some ⟨b,0+i.toNat*sz,none⟩,by simp[execOp,e',ei,ub hT b 0 h0 h1],⟨b,e,by simp⟩,rfl⟩
def PD(h:look Γ t=some (.ptr t' o))(hT:Lf P T len sz=true)(hi:Arg Γ ix (TI k i))(h0:0<=i)(h1:i<len):B0 P Γ ⟨d,.indexAddr T (.tmp t) ix,ty,pos,af,g⟩ (.ptr t'<|o+i.toNat*sz):=
 Dp λ_ _ _ a w _ hs=>by
  let⟨b,e1,e2⟩:=hs.holds _<|BD h
  have e':a.eval (.tmp t)= .pointer (some ⟨b,o,none⟩):=e2;have ei:a.eval ix= .int k i:=hi.ok hs;exact⟨.pointer<|some ⟨b,o+i.toNat*sz,none⟩,by simp[execOp,e',ei,ub hT b o h0 h1],⟨b,e1,rfl⟩,rfl⟩
def G1(sz:Nat)(l:A3 Ty):Prop:=∀τ∈l,τ.n=sz
def Ka{sz:Nat}:∀{l:A3 Ty},G1 sz l->CS l=l.length*sz
 |[],_=>by simp
 |τ::l,h=>by have h1:=h τ (by simp);have h2:=Ka (l:=l) (λx hx=>h x (by simp[hx]));simp[h1,h2,Ke];omega
def G1.take{sz:Nat}{l:A3 Ty}(h:G1 sz l)(i:Nat):G1 sz (l.take i):=λτ ht=>h τ<|Qp ht
theorem K4{α:Type _}{f:α->Ty}(h:∀x,(f x).n=sz)(l:A3 α):G1 sz (l.map f):=by simp_all [Ty.n,G1]
def ah4(h:Arg Γ x (GJ l))(hT:GP P T sz=true)(hu:G1 sz l)(hi:Arg Γ ix (TI k i))(h0:0<=i)(hl:l[i.toNat]? =some σ):B0 P Γ ⟨d,.indexAddr T x ix,ty,pos,af,g⟩ (.val<|Jl σ):=
 Dp λ_ _ _ a w _ hs=>by
  let⟨ad,cap,e,_,hx⟩:=h.ok hs;have hlt:=(FX.1 hl).1;let⟨b,o,cs,E,fr,e1,hb,hsz,ho⟩:=hx (λe=>by rw[e] at hlt;simp at hlt);subst e1;have ei:a.eval ix= .int k i:=hi.ok hs;have h1:i<l.length:=by omega
  let⟨p1,p2⟩:=Nb ho hl;have hc:CS (l.take i.toNat)=i.toNat*sz:=by rw[Ka<|hu.take _,EK,EZ (by omega)]
  rw[hc] at p1 p2;have hlen:(List.take (CS l)<|List.drop o cs.toList).length=CS l:=by simp;omega
  rw[hlen] at p1;refine⟨.pointer<|some ⟨b,o+i.toNat*sz,none⟩,by simp[execOp,e,ei,lZ hT b o l.length cap h0 h1],⟨b,_,cs,E,fr,rfl,hb,by omega,?_⟩,rfl⟩;have:List.take σ.n (List.drop (i.toNat*sz)<|List.take (CS l)<|List.drop o cs.toList)=List.take σ.n (List.drop (o+i.toNat*sz) cs.toList):=by
   rw[MX,OV,Fe]
   congr 1
   omega
  rw[this] at p2;exact p2
inductive AP(Γ:Ctx):A3 CR->A3 Ty->Prop where
 |nil:AP Γ [] []|cons {x:CR} {τ:Ty} {xs:A3 CR} {l:A3 Ty} (h:Arg Γ x τ) (r:AP Γ xs l):AP Γ (x::xs) (τ::l)
def AP.ok{xs:A3 CR}{l:A3 Ty}(h:AP Γ xs l){w0:Ah P}{H0:HV}{N:Nat}{a:Act}{w:AR}{H:HV}(hs:Sat w0 H0 N Γ a w H):Ee H l (xs.map a.eval):=by induction h with|nil=>rfl|cons h _ ih=>exact⟨_,_,rfl,h.ok hs,ih⟩
def Im:A3 Ty->AS
 |[τ]=> .val τ|l=> .tup l
def si:Res->AS
 | .vs l=>Im l| .fr E sz l=> .buf E sz l
def Vh{Bs:A3 Ty}{v:AV}{B:Ah P}{a:Act}(h:LZ H Bs v):(Im Bs).holds B a w H v:=by match Bs,h with|[],h=>exact h|[_],h=>exact h|_::_::_,h=>exact h
def Vq{Bs:A3 Ty}:(Im Bs).free=true:=by match Bs with|[]=>rfl|[_]=>rfl|_::_::_=>rfl
theorem PC{f:FuncId}(h:Gq P f=true)(args:BG AV)(w:AR):(callFunc f args).run P w= .ok (.enter f args) w:=by
 unfold Gq at h;split at h
 .rename_i fn hf;simp[C9,GM] at h;have hb:fn.body.isNone=false:=by cases hx:fn.body<;>simp[hx] at h⊢
  have h1:fn.name≠ "runtime.NumGoroutine" :=by simpa using h.2
  have h2:fn.body≠none:=by grind
  simp[callFunc,program,Sem.run,hf,h1,h2]
 .cases h
def FU{f:FuncId}{xs:A3 CR}{F5:BG Ap}{args:A3 Ty}{Bs:Res}(hf:Eg P f args Bs)(ha:AP Γ xs args):B0 P Γ ⟨d,.call ⟨.value<| .func f,xs.toArray,F5⟩,ty,pos,af,g⟩ (si Bs):=by
 intro w0 H0 N a w H hs K Q k;unfold Oper.wp;have e:execOp a.eval ⟨d,.call ⟨.value<| .func f,xs.toArray,F5⟩,ty,pos,af,g⟩=callFunc f (#[]++xs.toArray.map a.eval++ #[]):=rfl;rw[e,PC hf.can,WO];have e2:(#[]++xs.toArray.map a.eval++ #[])=(xs.map a.eval).toArray:=by simp
 rw[e2];refine(hf.run w H _ hs.sub hs.gl<|ha.ok hs).mono ?_;rintro e w' ⟨v,rfl,hb,H',h1,h2,h3⟩;have he:Ext w H w' H':=⟨hb,λr o h=>by rw[h1 r<|HN hs.sub h];exact h,h1,h2⟩;cases Bs with
 |vs l=>exact k v w' H' he (Vh h3)<|λb e=>absurd e<|AS.free_spec (s:=Im l) Vq
 |fr E sz l=>let⟨xs,k1,k2,k3⟩:=h3;exact k v w' H' he ⟨xs,k1,k2,λb hb=>⟨(k3 b hb).2,.inl<|Ch hs.below.size (k3 b hb).1⟩⟩<|λb e=>(k3 b e).1
def vP{i:TypeInfo}{z:AV}(hi:P.info? T=some i)(hz:i.zero=some z)(w:AR):(zeroValue T).run P w= .ok z w:=by simp[zeroValue,typeInfo,program,Sem.run,hi,hz]
structure Du(P:CP)(T:Ap)(τ:Ty):Prop where
 run:∀w,∃z,(zeroValue T).run P w= .ok z w/\∀H,τ.ok H z
def Fp(z:AV)(h:(P.info? T).bind (·.zero)=some z)(hz:∀H,τ.ok H z):Du P T τ:=⟨λw=>by cases hi:P.info? T with|none=>rw[hi] at h;cases h|some i=>rw[hi] at h;exact⟨z,vP hi h w,hz⟩⟩
def LD(h:Du P T τ):B0 P Γ ⟨d,.alloc T,ty,pos,af,g⟩ (.own T τ):=
 MM λw0 _ _ a w H hs=>by
  let⟨z,hr,hz⟩:=h.run w;refine⟨.pointer<|some ⟨w.heap.size,0,none⟩,w.alloc<| .cells z.cells T,H,?_,Ext.alloc hs.sub _,?_,?_⟩
  .simp[execOp,Instr.alloc,hr,newVar,newRow]
  .refine⟨w.heap.size,z,rfl,Lx w _,hz H,?_,.inl hs.below.size⟩;cases hh:H w.heap.size with|none=>rfl|some o=>have:=HN hs.sub hh;omega
  .rintro b ⟨ad,e,hb⟩;cases e;simp at hb;omega
def ap1(h:Arg Γ x τ):B0 P Γ ⟨d,.box T x,ty,pos,af,g⟩ (.own T τ):=
 MM λw0 _ _ a w H hs=>by
  refine⟨.pointer<|some ⟨w.heap.size,0,none⟩,w.alloc<| .cells (a.eval x).cells T,H,?_,Ext.alloc hs.sub _,?_,?_⟩
  .simp[execOp,Instr.box,newVar,newRow]
  .refine⟨w.heap.size,a.eval x,rfl,Lx w _,h.ok hs,?_,.inl hs.below.size⟩;cases hh:H w.heap.size with|none=>rfl|some o=>have:=HN hs.sub hh;omega
  .rintro b ⟨ad,e,hb⟩;cases e;simp at hb;omega
end
section
variable[D:DR]
variable{P:Program}{N:Nat}{ops:Array Oper}{Γ Aq:Ctx}{d:Option Tmp}{ty:TypeId}{pos:String}{af:Array Edge}{g:Option (Nat×Bool)}
variable{T:Ap}{x:CR}{t:Nat}{T':Ap}{l:A3 Ty}{y:CR}{n:Int}{E:Ap}{sz:Nat}{m:Int}{w:AR}{τ:Ty}{H:HV}{w0:Ah P}{k:IntKind}{a:Act}{σ:Ty}{H0:HV}{dd bytes:Nat}{T2:Ap}{s:AS}{v:AV}{l2:A3 Ty}{off:Nat}{Ai:Ctx}{w':AR}{ps:A3 (Nat×CR)}{l':A3 Ty}{row:A9 Nat}{b:Nat}{s':AS}{i:Nat}{ρ:Ty}{p:Nat}{Gx:Ty}
def rX{d:Nat}{Γ:Ctx}{p:Nat×AS}(h:p∈del d Γ):p.1≠d/\d∉p.2.CD:=YU PX p h
def yr(hs:Sat w0 H0 N Γ a w H)(hg:Ef w w' row)(Hf:∀b,row=some b->w0.EH b/\H b=none/\∀l,w.heap[b]? ≠some (.deferred l))
 (BI:∀p∈Aq,p∈Γ/\∀b,p.2.owns w (Ae a p.1) b->row≠some b):Sat w0 H0 N Aq a w' H:=by
 have E9:∀b,b<w.heap.size->row≠some b->w'.heap[b]? =w.heap[b]? :=λb hb hn=>hg.block b hb<|λe=>hn e.symm
 refine Vy (ds:=a.defers) hs (hs.below.Lb hg<|λk hk=>(Hf k hk).1) hg.drawn (λ_ _ _ _=>rfl) hg.size (HV.le.refl _) ?_ ?_ ?_ ?_
 .intro r o h;rw[E9 r (HN hs.sub h) (λe=>by have:=(Hf r e).2.1;rw[this] at h;cases h)];exact hs.sub r o h
 .intro _ b hb G0;exact⟨E9 b hb (λe=>by have:=Ah.Qe (Hf b e).1;omega),rfl⟩
 .intro p hp;exact⟨(BI p hp).1,λb hb=>⟨E9 b (AS.J9 (hs.holds p (BI p hp).1) hb).1<|(BI p hp).2 b hb,rfl⟩⟩
 .exact hs.nd.kept λD _ h1 h2=>⟨by rw[E9 D (lt_of_heap h1)<|λe=>(Hf D e).2.2 _ h1];exact h1,h2⟩
def QV(h:Sat w0 H0 N Γ a w H){d:Nat}(hd:d<N)(hf:Jc d Γ=true)(hl:d∉s.CD)
 (hs:s.holds w0 a w H v)(hfr:∀b,s.owns w v b->∀q∈Γ,¬q.2.owns w (Ae a q.1) b):Sat w0 H0 N ((d,s)::Γ) (a.put (some d) v) w H:=wS h hd hf hl hs hfr
theorem PB(hs:Sat w0 H0 N Γ a w H)(ht:(t,s)∈Γ)(hg:Ef w w' (some b))(hb:w0.EH b)(hob:s.owns w (Ae a t) b)
 (DQ:s'.holds w0 a w' H (Ae a t))(Jt:∀c,s'.owns w' (Ae a t) c->s.owns w (Ae a t) c\/w.heap.size<=c):Sat w0 H0 N ((t,s')::BL t Γ) a w' H:=by
 let⟨h1,h2,o,h3,h4⟩:=AS.J9 (hs.holds _ ht) hob;have other:∀q∈BL t Γ,∀c,s.owns w (Ae a t) c-> ¬q.2.owns w (Ae a q.1) c:=λq hq c hc=>hs.sep _ ht q (DO q hq).1 (λe=>(DO q hq).2 e.symm) c hc
 have IF:Sat w0 H0 N (BL t Γ) a w' H:=by
  refine yr hs hg (λc hc=>by cases hc;exact⟨hb,h2,λl e=>by rw[h3] at e;cases e;exact h4⟩)<|λq hq=>⟨(DO q hq).1,λc hc e=>?_⟩
  cases e;exact other q hq b hob hc
 have back:∀q∈BL t Γ,∀c,q.2.owns w' (Ae a q.1) c->q.2.owns w (Ae a q.1) c:=λq hq c hc=>by
  refine((AS.Yl (w':=w') (H':=H) (hs.holds q (DO q hq).1) ?_).2 c).1 hc;refine⟨hg.size,hg.os,hg.tape,hg.output,hg.drawn,HV.le.refl _,?_,λ_ _ _=>rfl,IF.sub⟩;intro c hc1 HH;refine hg.block c hc1<|λe=>?_
  cases e;rcases HH with HH|HH
  .have:=Ah.Qe hb;omega
  .grind
 refine⟨IF.nd,IF.sz,IF.below,IF.Fj,IF.sub,?_,?_,IF.gl⟩
 .intro q hq;rcases Am.1 hq with eq|hq
  .grind
  .exact IF.holds q hq
 .have key:∀q∈BL t Γ,∀c,s'.owns w' (Ae a t) c-> ¬q.2.owns w' (Ae a q.1) c:=λq hq c hc FR=>by
   rcases Jt c hc with h|h
   .grind
   .have:=(AS.J9 (hs.holds q (DO q hq).1)<|back q hq c FR).1;omega
  intro q hq r hr hne c hc FR;rcases Am.1 hq with eq|hq<;>rcases Am.1 hr with er|hr
  .grind
  .grind
  .grind
  .exact IF.sep q hq r hr hne c hc FR
theorem ajM(hs:Sat w0 H0 N Γ a w H)(hg:Ef w w' row)(Hf:∀b,row=some b->w0.EH b/\H b=none)
 {q:Nat×AS}(hq:q∈Γ)(hn:∀b,q.2.owns w (Ae a q.1) b->row≠some b)(c:Nat):q.2.owns w' (Ae a q.1) c↔q.2.owns w (Ae a q.1) c:=by
 refine(AS.Yl (w':=w') (H':=H) (hs.holds q hq) ?_).2 c;refine⟨hg.size,hg.os,hg.tape,hg.output,hg.drawn,HV.le.refl _,?_,λ_ _ _=>rfl,?_⟩
 .intro c hc1 HH;refine hg.block c hc1<|λe=>?_
  rcases HH with HH|HH
  .have:=Ah.Qe (Hf c e.symm).1;omega
  .grind
 .intro r o h;rw[hg.block r (HN hs.sub h) (λe=>by have:=(Hf r e.symm).2;rw[this] at h;cases h)];exact hs.sub r o h
theorem Vx(hs:Sat w0 H0 N Γ a w H)(ht:(t,s)∈Γ)(hg:Ef w w' row)
 (Hf:∀b,row=some b->s.owns w (Ae a t) b/\w0.EH b)(DN:dd<N)(hl:dd∉s'.CD)(hv:s'.holds w0 a w' H v)(ho:∀b,s'.owns w' v b->s.owns w (Ae a t) b\/w.heap.size<=b):Sat w0 H0 N ((dd,s')::del dd (BL t Γ)) (a.put (some dd) v) w' H:=by
 have low:∀b,s.owns w (Ae a t) b->b<w.heap.size/\H b=none/\∃o,w.heap[b]? =some o/\aG o:=λb h=>AS.J9 (hs.holds _ ht) h
 have sub:∀q∈del dd (BL t Γ),q∈Γ/\∀b,s.owns w (Ae a t) b-> ¬q.2.owns w (Ae a q.1) b:=λq hq=>by
  have h1:=DO q<|Mb q hq
  exact⟨h1.1,λb hb=>hs.sep _ ht q h1.1 (λe=>h1.2 e.symm) b hb⟩
 have acQ:∀b,row=some b->w0.EH b/\H b=none:=λb h=>⟨(Hf b h).2,(low b (Hf b h).1).2.1⟩
 have hn:∀q∈del dd (BL t Γ),∀b,q.2.owns w (Ae a q.1) b->row≠some b:=λq hq b hb e=>(sub q hq).2 b (Hf b e).1 hb
 have IF:Sat w0 H0 N (del dd<|BL t Γ) a w' H:=by
  refine yr hs hg (λb h=>⟨(Hf b h).2,(acQ b h).2,λl e=>?_⟩)<|λq hq=>⟨(sub q hq).1,hn q hq⟩
  let⟨_,_,o,h3,h4⟩:=low b (Hf b h).1;rw[h3] at e;cases e;exact h4
 refine QV IF DN PX hl hv λb hb q hq hqb=>?_
 have hqb:=(ajM hs hg acQ (sub q hq).1 (hn q hq) b).1 hqb;rcases ho b hb with h|h
 .grind
 .have:=(AS.J9 (hs.holds q (sub q hq).1) hqb).1;omega
def nv(w:AR):Ef w w none:=⟨⟨rfl,rfl,rfl,BQ _,λ_ _ _=>rfl⟩,BQ _⟩
def HC(τ:Ty)(off:Nat)(σ Gx:Ty):Prop:=∀(H:HV) (v x:AV),τ.ok H v->σ.ok H x->off+σ.n<=v.cells.size/\
 ∃x',Gx.ok H x'/\x'.cells=(v.cells.toList.take off++x.cells.toList++v.cells.toList.drop (off+σ.n)).toArray
def HC.whole(h:σ.n=τ.n):HC τ 0 σ σ:=λH v x hv hx=>by have h1:=(τ.shape hv).size;refine⟨by omega,x,hx,?_⟩;rw[NG (by simp;omega)];simp
def HC.agg{l:A3 Ty}{i off:Nat}{σ ρ:Ty}(h:l[i]? =some ρ)(hn:σ.n=ρ.n)(ho:CS (l.take i)=off):HC (DH l) off σ (DH<|l.set i σ):=by rintro H v x ⟨cs,e,ok⟩ hx;subst e;subst ho;let⟨p1,_⟩:=Nb ok h;have hp:=UA ok h hn hx;rw[<-hn] at p1 hp;simp[Fv] at p1;exact⟨p1,.agg _,⟨_,rfl,by simpa[Value.cells] using hp⟩,rfl⟩
def nG{n:Nat}(h:Shape n false v):v.oneCell'=true/\n=1/\v.cells= #[v]:=by
 have h1:=h.size;have h2:=h.cell;have h3:=h.eq;cases v with
 |agg c=>
  exfalso;simp[Value.cells,H6] at h2 h3;by_cases hc:0<c.size
  .simp[hc] at h3;have:=h2 c[0] (by simp);rw[<-h3] at this;simp[Value.oneCell'] at this
  .simp[UT,im<|Zc hc,undef] at h3
 |tuple c=>have:=h2 (.tuple c) (by simp[Value.cells]);simp[Value.oneCell'] at this|_=>exact⟨rfl,by simpa[Value.cells] using h1.symm,rfl⟩
def agj{n:Nat}{agg:Bool}{Kw:A3 AV}(h:Shape n agg (H6 agg Kw.toArray))(hl:Kw.length=n):(H6 agg Kw.toArray).cells=Kw.toArray:=by
 cases agg
 .let⟨_,h2,h3⟩:=nG h
  match Kw,hl.trans h2 with|[y],_=>simpa[H6] using h3
 .rfl
theorem HC.trans{o1 o2:Nat}{ρ':Ty}(h:l[i]? =some ρ)(ho:CS (l.take i)=o1)(k:HC ρ o2 σ ρ')(hn:ρ'.n=ρ.n)(e:o1+o2=off):HC (DH l) off σ (DH<|l.set i ρ'):=by
 rintro H v x ⟨cs,e',ok⟩ hx;subst e';subst ho;subst e;let⟨p1,p2⟩:=Nb ok h;have hlen:cs.toList.length=cs.size:=by simp
 rw[hlen] at p1
 generalize OC:(List.take ρ.n<|List.drop (CS<|List.take i l) cs.toList)=Kw at p2
 have jq:Kw.length=ρ.n:=by grind
 have apc:=agj (ρ.shape p2) jq;let⟨k1,x',k2,k3⟩:=k H _ x p2 hx;rw[apc] at k1 k3;simp[iS,jq] at k1;refine⟨by simp[Value.cells];omega,.agg _,⟨_,rfl,?_⟩,rfl⟩;have hp:=UA ok h hn k2;rw[k3] at hp;have e1:List.take (CS<|List.take i l) cs.toList++(List.take o2 Kw++x.cells.toList++List.drop (o2+σ.n) Kw)++List.drop (CS (List.take i l)+ρ.n) cs.toList=List.take (CS (List.take i l)+o2) cs.toList++x.cells.toList++List.drop (CS (List.take i l)+o2+σ.n) cs.toList:=by
  have t1:List.take (CS (List.take i l)+o2) cs.toList=List.take (CS<|List.take i l) cs.toList++List.take o2 Kw:=by rw[List.take_add,<-OC,OV,EZ (by omega)]
  have t2:List.drop (CS (List.take i l)+o2+σ.n) cs.toList=List.drop (o2+σ.n) Kw++List.drop (CS (List.take i l)+ρ.n) cs.toList:=by
   rw[<-OC,MX,Fe];have:List.drop (CS (List.take i l)+ρ.n) cs.toList=List.drop (ρ.n-(o2+σ.n)) (List.drop (CS (List.take i l)+(o2+σ.n)) cs.toList):=by rw[Fe];congr 1;omega
   rw[this,Oi]
   congr 1;omega
  rw[t1,t2];simp[ID]
 rw[List.toList_toArray] at hp;rw[e1] at hp;exact hp
def TT{n:Nat}{cs:BG AV}{x:AV}(hT:(P.info? T).map (·.size)=some n)(hn:x.cells.size=n)(hb:w.heap[b]? =some (.cells cs E (0,0)))(hl:off+n<=cs.size)(h1:∀c∈x.cells.toList,c.oneCell'=true):(storeVar T ⟨b,off,none⟩ x).run P w= .ok () (w.setRow b (cs.toList.take off++x.cells.toList++cs.toList.drop (off+n)).toArray):=by
 cases hi:P.info? T with
 |none=>rw[hi] at hT;cases hT
 |some i=>rw[hi] at hT;simp at hT;have Ex:=run_storeCells_at P b off E x.cells.toList 0 cs w hb (by simp;omega) h1;simp[UF,Fv,hn] at Ex;simp[storeVar,Go.sizeOf,typeInfo,program,Sem.run,hi,hT,hn,Ex]
def U4{n:Nat}{agg:Bool}(h:Bv P T n agg=true):(P.info? T).map (·.size)=some n:=by
 unfold Bv at h;split at h
 .rename_i i dd hi hu;simp only[C9] at h;rw[hi];simp[EF h.1.1]
 .cases h
def xw(BI:∀q∈Ai,q∈Γ)(hp:look Ai p=some (.ptr t off))(ht:look Ai t=some (.own T' τ))(hx:Arg Ai x σ)(hs:HC τ off σ Gx)(hT:Bv P T σ.n σ.agg=true):Step P N ops ⟨none,.store T (.tmp p) x,ty,pos,af,none⟩ Γ ((t,.own T' Gx)::BL t Γ):=by
 intro w0 H0 a w H BJ K Q k;simp[Region.wanted,if_true];let⟨b,v,e,hb,hv,hH,hB⟩:=BJ.holds _ (BI _<|BD ht);let⟨b',e1,e2⟩:=BJ.holds _ (BI _<|BD hp);simp only at e e1;rw[e] at e1;cases e1;have ep:a.eval (.tmp p)= .pointer (some ⟨b,off,none⟩):=e2;have Hx:=hx.ok<|BJ.weaken BI
 have CW:=σ.shape Hx;let⟨h1,x',h2,h3⟩:=hs H v _ hv Hx;have FC:=TT (P:=P) (U4 hT) CW.size hb h1 CW.cell;rw[<-h3] at FC;unfold Oper.wp;have er:(execOp a.eval ⟨none,.store T (.tmp p) x,ty,pos,af,none⟩).run P w= .ok .skip (w.setRow b x'.cells):=by simp[execOp,ep,Instr.storeAt,Instr.sureAddr,FC]
 rw[er,Qk];have hg:Ef w (w.setRow b x'.cells) (some b):=Ef.setRow w b _;refine k a _ H<|PB BJ (BI _<|BD ht) hg hB ⟨_,e,rfl⟩ ⟨b,x',e,UC w b _ _ _ _ hb,h2,hH,hB⟩ λc hc=>?_
 let⟨ad,e',hc⟩:=hc;simp[e] at e';cases e';exact .inl ⟨_,e,hc⟩
def yl(hp:look Γ p=some (.ptr t off))(ht:look Γ t=some (.own T' τ))(hx:Arg Γ x σ)(hs:HC τ off σ Gx)(hT:Bv P T σ.n σ.agg=true):Step P N ops ⟨none,.store T (.tmp p) x,ty,pos,af,none⟩ Γ ((t,.own T' Gx)::BL t Γ):=xw (λ_ h=>h) hp ht hx hs hT
def oG(hp:look Γ p=some (.ptr t off))(ht:look Γ t=some (.own T' τ))(hx:Arg Γ x σ)(hs:HC τ off σ Gx)(hT:Bv P T σ.n σ.agg=true):P3 P N ops Γ ⟨none,.store T (.tmp p) x,ty,pos,af,none⟩ t (.own T' Gx):=λ_ BI=>xw BI hp ht hx hs hT
def vN(BI:∀q∈Ai,q∈Γ)(ht:look Ai t=some (.own T' τ))(hx:Arg Ai x σ)(hn:σ.n=τ.n)(hT:Bv P T σ.n σ.agg=true):Step P N ops ⟨none,.store T (.tmp t) x,ty,pos,af,none⟩ Γ ((t,.own T' σ)::BL t Γ):=by
 intro w0 H0 a w H BJ K Q k;simp[Region.wanted,if_true];let⟨b,v,e,hb,hv,hH,hB⟩:=BJ.holds _ (BI _<|BD ht);have ep:a.eval (.tmp t)= .pointer (some ⟨b,0,none⟩):=e;have Hx:=hx.ok<|BJ.weaken BI
 have CW:=σ.shape Hx;let⟨h1,x',h2,h3⟩:=HC.whole hn H v _ hv Hx;have FC:=TT (P:=P) (U4 hT) CW.size hb h1 CW.cell;rw[<-h3] at FC;unfold Oper.wp;have er:(execOp a.eval ⟨none,.store T (.tmp t) x,ty,pos,af,none⟩).run P w= .ok .skip (w.setRow b x'.cells):=by simp[execOp,ep,Instr.storeAt,Instr.sureAddr,FC]
 rw[er,Qk];have hg:Ef w (w.setRow b x'.cells) (some b):=Ef.setRow w b _;refine k a _ H<|PB BJ (BI _<|BD ht) hg hB ⟨_,e,rfl⟩ ⟨b,x',e,UC w b _ _ _ _ hb,h2,hH,hB⟩ λc hc=>?_
 let⟨ad,e',hc⟩:=hc;simp[e] at e';cases e';exact .inl ⟨_,e,hc⟩
def afp(ht:look Γ t=some (.own T' τ))(hx:Arg Γ x σ)(hn:σ.n=τ.n)(hT:Bv P T σ.n σ.agg=true):Step P N ops ⟨none,.store T (.tmp t) x,ty,pos,af,none⟩ Γ ((t,.own T' σ)::BL t Γ):=vN (λ_ h=>h) ht hx hn hT
def afS(ht:look Γ t=some (.own T' τ))(hx:Arg Γ x σ)(hn:σ.n=τ.n)(hT:Bv P T σ.n σ.agg=true):P3 P N ops Γ ⟨none,.store T (.tmp t) x,ty,pos,af,none⟩ t (.own T' σ):=λ_ BI=>vN BI ht hx hn hT
def IA{op:BinOp}(hx:Arg Γ x σ)(hy:Arg Γ y τ)
 (h:∀H u v,σ.ok H u->τ.ok H v->∀w:AR,(∀r o,H r=some o->w.heap[r]? =some o)->∃z,(do eqGuard op T x y u v;binOp op T u v:Sem AV).run P w= .ok z w/\ρ.ok H z):B0 P Γ ⟨d,.binOp op T x y T',ty,pos,af,g⟩ (.val ρ):=
 Dp λ_ _ _ a w H hs=>by
  let⟨z,h1,h2⟩:=h H _ _ (hx.ok hs) (hy.ok hs) w hs.sub;refine⟨z,?_,h2,rfl⟩;have e:execOp a.eval ⟨d,.binOp op T x y T',ty,pos,af,g⟩=(do let z<-(do eqGuard op T x y (a.eval x) (a.eval y);binOp op T (a.eval x) (a.eval y):Sem AV);pure (.value z)):=rfl;rw[e,E6,h1]
  rfl
def NF(hx:Arg Γ x (TI k m))(hy:Arg Γ y (TI k n)):B0 P Γ ⟨d,.binOp .add T x y T',ty,pos,af,g⟩ (.val<|TI k<|k.wrap<|m+n):=
 IA hx hy λH u v hu hv w _=>by cases hu;cases hv;exact⟨_,by simp[eqGuard,binOp,Op.intArith],rfl⟩
def Po(hx:Arg Γ x (TI k m))(hy:Arg Γ y (TI k n)):B0 P Γ ⟨d,.binOp .sub T x y T',ty,pos,af,g⟩ (.val<|TI k<|k.wrap<|m-n):=
 IA hx hy λH u v hu hv w _=>by cases hu;cases hv;exact⟨_,by simp[eqGuard,binOp,Op.intArith],rfl⟩
def Ns(hx:Arg Γ x (TI k m))(hy:Arg Γ y (TI k n)):B0 P Γ ⟨d,.binOp .mul T x y T',ty,pos,af,g⟩ (.val<|TI k<|k.wrap<|m*n):=
 IA hx hy λH u v hu hv w _=>by cases hu;cases hv;exact⟨_,by simp[eqGuard,binOp,Op.intArith],rfl⟩
def abW(hx:Arg Γ x (TI k m))(hy:Arg Γ y (TI k n))(h:n≠0):B0 P Γ ⟨d,.binOp .quo T x y T',ty,pos,af,g⟩ (.val<|TI k<|k.wrap<|m.tdiv n):=
 IA hx hy λH u v hu hv w _=>by cases hu;cases hv;exact⟨_,by simp[eqGuard,binOp,Op.intDiv,h],rfl⟩
def aot(hx:Arg Γ x (TI k m))(hy:Arg Γ y (TI k n))(h:n≠0):B0 P Γ ⟨d,.binOp .rem T x y T',ty,pos,af,g⟩ (.val<|TI k<|m.tmod n):=
 IA hx hy λH u v hu hv w _=>by cases hu;cases hv;exact⟨_,by simp[eqGuard,binOp,Op.intDiv,h],rfl⟩
def Cr(hx:Arg Γ x (TI k m))(hy:Arg Γ y (TI k n)):B0 P Γ ⟨d,.binOp .lss T x y T',ty,pos,af,g⟩ (.val<|Ay<|decide<|m<n):=
 IA hx hy λH u v hu hv w _=>by cases hu;cases hv;exact⟨_,by simp[eqGuard,binOp,Op.intCmp],rfl⟩
def Qz(hx:Arg Γ x (TI k m))(hy:Arg Γ y (TI k n)):B0 P Γ ⟨d,.binOp .leq T x y T',ty,pos,af,g⟩ (.val<|Ay<|decide<|m<=n):=
 IA hx hy λH u v hu hv w _=>by cases hu;cases hv;exact⟨_,by simp[eqGuard,binOp,Op.intCmp],rfl⟩
def CQ(hx:Arg Γ x (TI k m))(hy:Arg Γ y (TI k n)):B0 P Γ ⟨d,.binOp .gtr T x y T',ty,pos,af,g⟩ (.val<|Ay<|decide<|n<m):=
 IA hx hy λH u v hu hv w _=>by cases hu;cases hv;exact⟨_,by simp[eqGuard,binOp,Op.intCmp],rfl⟩
def HZ(hx:Arg Γ x (TI k m))(hy:Arg Γ y (TI k n)):B0 P Γ ⟨d,.binOp .geq T x y T',ty,pos,af,g⟩ (.val<|Ay<|decide<|n<=m):=
 IA hx hy λH u v hu hv w _=>by cases hu;cases hv;exact⟨_,by simp[eqGuard,binOp,Op.intCmp],rfl⟩
def Cj(hx:Arg Γ x (TI k m))(hy:Arg Γ y (TI k n)):B0 P Γ ⟨d,.binOp .eql T x y T',ty,pos,af,g⟩ (.val<|Ay<|decide<|m=n):=
 IA hx hy λH u v hu hv w _=>by
  cases hu;cases hv;refine⟨.bool<|m==n,by simp[eqGuard,binOp,Op.intCmp],?_⟩;show _=_
  congr 1
def DC(hx:Arg Γ x (TI k m))(hy:Arg Γ y (TI k n)):B0 P Γ ⟨d,.binOp .neq T x y T',ty,pos,af,g⟩ (.val<|Ay<| !decide (m=n)):=
 IA hx hy λH u v hu hv w _=>by
  cases hu;cases hv;refine⟨.bool<|m !=n,by simp[eqGuard,binOp,Op.intCmp],?_⟩;show _=_
  congr 1
def aoz{m n:ByteArray}(hx:Arg Γ x (TM m))(hy:Arg Γ y (TM n)):B0 P Γ ⟨d,.binOp .eql T x y T',ty,pos,af,g⟩ (.val<|Ay<|m.toList==n.toList):=
 IA hx hy λH u v hu hv w _=>by cases hu;cases hv;exact⟨_,by simp[eqGuard,binOp,Op.stringOp],rfl⟩
def aou{m n:ByteArray}(hx:Arg Γ x (TM m))(hy:Arg Γ y (TM n)):B0 P Γ ⟨d,.binOp .neq T x y T',ty,pos,af,g⟩ (.val<|Ay<| !(m.toList==n.toList)):=
 IA hx hy λH u v hu hv w _=>by cases hu;cases hv;exact⟨_,by simp[eqGuard,binOp,Op.stringOp],rfl⟩
def X6(P:CP)(T:Ap):Bool:=match P.underlying T with|some .bool=>true|_=>false
def ap0{m n:Bool}(hT:X6 P T=true)(hx:Arg Γ x (Ay m))(hy:Arg Γ y (Ay n)):B0 P Γ ⟨d,.binOp .eql T x y T',ty,pos,af,g⟩ (.val<|Ay<|m==n):=
 IA hx hy λH u v hu hv w _=>by
  cases hu;cases hv;have hu:P.underlying T=some .bool:=by
   unfold X6 at hT;split at hT
   .assumption
   .cases hT
  refine⟨.bool<|m==n,?_,rfl⟩;have e:(Op.equal T (.bool m)<| .bool n).run P w= .ok (m==n) w:=run_equalIn_bool w 9999 T m n hu;simp[eqGuard,binOp,e]
def Dh{b:Bool}(hx:Arg Γ x (Ay b)):B0 P Γ ⟨d,.unOp .not T x,ty,pos,af,g⟩ (.val<|Ay<| !b):=
 Dp λ_ _ _ a w H hs=>by have e:a.eval x= .bool b:=hx.ok hs;exact⟨_,by simp[execOp,e,Op.unary],rfl,rfl⟩
def abX(hx:Arg Γ x (TI k n)):B0 P Γ ⟨d,.unOp .neg T x,ty,pos,af,g⟩ (.val<|TI k<|k.wrap<|0-n):=
 Dp λ_ _ _ a w H hs=>by have e:a.eval x= .int k n:=hx.ok hs;exact⟨_,by simp[execOp,e,Op.unary,Op.intArith],rfl,rfl⟩
def DW(n:Int):Prop:= -9223372036854775808<=n/\n<=9223372036854775807
def wrap_i64(h:DW n):IntKind.i64.wrap n=n:=by exact IntWalk.i64_in n h
def U64(n:Int):Prop:=0<=n/\n<18446744073709551616
def wrap_u64(h:U64 n):IntKind.u64.wrap n=n:=by unfold U64 at h;exact IntWalk.u64_in n (by omega)
def an9(hx:Arg Γ x (TI .i64 m))(hy:Arg Γ y (TI .i64 n))(h:DW (m+n)):B0 P Γ ⟨d,.binOp .add T x y T',ty,pos,af,g⟩ (.val<|TI .i64<|m+n):=by have:=NF (P:=P) (d:=d) (ty:=ty) (pos:=pos) (af:=af) (g:=g) (T:=T) (T':=T') hx hy;rwa [wrap_i64 h] at this
def an3(hx:Arg Γ x (TI .i64 m))(hy:Arg Γ y (TI .i64 n))(h:DW (m-n)):B0 P Γ ⟨d,.binOp .sub T x y T',ty,pos,af,g⟩ (.val<|TI .i64<|m-n):=by have:=Po (P:=P) (d:=d) (ty:=ty) (pos:=pos) (af:=af) (g:=g) (T:=T) (T':=T') hx hy;rwa [wrap_i64 h] at this
def an6(hx:Arg Γ x (TI .i64 m))(hy:Arg Γ y (TI .i64 n))(h:DW (m*n)):B0 P Γ ⟨d,.binOp .mul T x y T',ty,pos,af,g⟩ (.val<|TI .i64<|m*n):=by have:=Ns (P:=P) (d:=d) (ty:=ty) (pos:=pos) (af:=af) (g:=g) (T:=T) (T':=T') hx hy;rwa [wrap_i64 h] at this
def an4(hx:Arg Γ x (TI .i64 m))(hy:Arg Γ y (TI .i64 n))(hn:n≠0)(h:DW (m.tdiv n)):B0 P Γ ⟨d,.binOp .quo T x y T',ty,pos,af,g⟩ (.val<|TI .i64<|m.tdiv n):=by have:=abW (P:=P) (d:=d) (ty:=ty) (pos:=pos) (af:=af) (g:=g) (T:=T) (T':=T') hx hy hn;rwa [wrap_i64 h] at this
def an5(hx:Arg Γ x (TI .i64 n))(h:DW (-n)):B0 P Γ ⟨d,.unOp .neg T x,ty,pos,af,g⟩ (.val<|TI .i64<| -n):=by have:=abX (P:=P) (d:=d) (ty:=ty) (pos:=pos) (af:=af) (g:=g) (T:=T) hx;rwa [Int.zero_sub,wrap_i64 h] at this
def E4(P:CP)(T:Ap):Bool:=match P.underlying T with|some (.slice _)=>true|_=>false
theorem fP(h:E4 P T=true):∃e,P.underlying T=some (.slice e):=by
 unfold E4 at h;split at h
 .grind
 .cases h
def isStr(P:CP)(T:Ap):Bool:=match P.underlying T with|some .string=>true|_=>false
def nu(h:isStr P T=true):P.underlying T=some .string:=by
 unfold isStr at h;split at h
 .assumption
 .cases h
def nh{ty:Ap}(h:E4 P T=true)(ad:A9 Addr)(n c:Nat)(w:AR):(Builtin.len_ #[T] ty #[.slice ad n c]).run P w= .ok (.int .i64 n) w:=by let⟨e,hu⟩:=fP h;simp[Builtin.len_,Ey hu,goInt]
def aoy(hT:E4 P T=true)(hx:Arg Γ x (GJ l)):B0 P Γ ⟨d,.call ⟨.builtin .len,#[x],#[T]⟩,ty,pos,af,g⟩ (.val<|TI .i64 l.length):=
 Dp λ_ _ _ a w H hs=>by let⟨ad,cap,e,_⟩:=hx.ok hs;exact⟨_,by simp[execOp,resolve,invoke,builtin,e,nh hT],rfl,rfl⟩
def ahr{s:ByteArray}(hT:isStr P T=true)(hx:Arg Γ x (TM s)):B0 P Γ ⟨d,.call ⟨.builtin .len,#[x],#[T]⟩,ty,pos,af,g⟩ (.val<|TI .i64 s.size):=
 Dp λ_ _ _ a w H hs=>by have e:a.eval x= .string s:=hx.ok hs;exact⟨_,by simp[execOp,resolve,invoke,builtin,e,Builtin.len_,Ey<|nu hT,goInt],rfl,rfl⟩
theorem ab5{B:Ah P}(h:(AS.buf E sz l).holds B a w H v):∃ad cap,v= .slice ad l.length cap:=by
 let⟨xs,⟨_,hc⟩,_⟩:=h;rcases hc with⟨e,hl⟩|⟨g,cap,cur,e,_⟩
 .grind
 .grind
def ah3{s:Nat}(hT:E4 P T=true)(hs:look Γ s=some (.same t))(ht:look Γ t=some (.buf E sz l)):B0 P Γ ⟨d,.call ⟨.builtin .len,#[.tmp s],#[T]⟩,ty,pos,af,g⟩ (.val<|TI .i64 l.length):=
 Dp λ_ _ _ a w H BJ=>by
  let⟨ad,cap,e⟩:=ab5<|BJ.holds _<|BD ht
  have e2:Ae a s=Ae a t:=BJ.holds _<|BD hs
  have e3:a.eval (.tmp s)= .slice ad l.length cap:=e2.trans e;exact⟨_,by simp[execOp,resolve,invoke,builtin,e3,nh hT],rfl,rfl⟩
def Dm:B0 P Γ ⟨d,.move<| .tmp t,ty,pos,af,g⟩ (.same t):=Dp λ_ _ _ a _ _ _=>⟨Ae a t,rfl,rfl,rfl⟩
def ajO:B0 P Γ ⟨d,.assign<| .const<| .slice none 0 0,ty,pos,af,g⟩ (.buf E sz []):=ajP λw0 _ _ a w _ _=>⟨.slice none 0 0,rfl,⟨[],World.ownsRow_nil w _ _ _,rfl,λb h=>by simp[Value.ownBlock] at h⟩,λb h=>by simp[AS.owns,Value.ownBlock] at h⟩
open Classical in
theorem vn(hs:Sat w0 H0 N Γ a w H)(ht:(t,s)∈Γ)(S:Nat->Prop)(hS:∀b,S b->s.owns w (Ae a t) b/\w0.EH b)
 (hv:s'.holds w0 a w (λr=>if S r then w.heap[r]? else H r) (Ae a t))(ho:∀b,s'.owns w (Ae a t) b->s.owns w (Ae a t) b):Sat w0 H0 N ((t,s')::BL t Γ) a w (λr=>if S r then w.heap[r]? else H r):=by
 have low:∀b,S b->b<w.heap.size/\H b=none/\∃o,w.heap[b]? =some o/\aG o:=λb h=>AS.J9 (hs.holds _ ht) (hS b h).1
 have hle:HV.le H (λr=>if S r then w.heap[r]? else H r):=by
  intro r o h;by_cases e:S r
  .grind
  .simp[e,h]
 have sB:∀q∈BL t Γ,∀b,q.2.owns w (Ae a q.1) b-> ¬S b:=by intro q hq b hqb e;exact hs.sep _ ht q (DO q hq).1 (λe=>(DO q hq).2 e.symm) b (hS b e).1 hqb
 have IF:Sat w0 H0 N (BL t Γ) a w (λr=>if S r then w.heap[r]? else H r):=by
  refine Vy (ds:=a.defers) hs hs.below (BQ _) ?_ (BQ _) hle ?_ ?_ ?_ ?_
  .intro _ r hr hx;have: ¬S r:=λe=>by
    rcases(hS r e).2 with h|h
    .omega
    .exact hx h
   simp[this]
  .intro r o h;by_cases e:S r
   .simpa[e] using h
   .simp[e,if_false] at h;exact hs.sub r o h
  .intro _ b _ hb;have: ¬S b:=λe=>by have:=Ah.Qe (hS b e).2;omega
   simp[this]
  .intro p hp;exact⟨(DO p hp).1,λb hb=>⟨rfl,by simp[sB p hp b hb]⟩⟩
  .refine hs.nd.kept λD _ h1 h2=>⟨h1,?_⟩
   have: ¬S D:=λe=>by let⟨_,_,o,ho,Jt⟩:=low D e;rw[h1] at ho;cases ho;exact Jt
   simp[this,h2]
 refine⟨IF.nd,IF.sz,IF.below,IF.Fj,IF.sub,?_,?_,IF.gl⟩
 .intro p hp;rcases Am.1 hp with e|hp
  .subst e;exact hv
  .exact IF.holds p hp
 .intro p hp q hq hne b hb Bg;rcases Am.1 hp with e|hp
  .subst e;rcases Am.1 hq with e|hq
   .grind
   .exact hs.sep _ ht q (DO q hq).1 hne b (ho b hb) Bg
  .rcases Am.1 hq with e|hq
   .subst e;exact hs.sep p (DO p hp).1 _ ht hne b hb<|ho b Bg
   .exact IF.sep p hp q hq hne b hb Bg
open Classical in
def eN(hs:Sat w0 H0 N Γ a w H)(ht:(t,s)∈Γ)(S:Nat->Prop)(hS:∀b,S b->s.owns w (Ae a t) b/\w0.EH b)
 (hv:τ.ok (λr=>if S r then w.heap[r]? else H r) (Ae a t)):Sat w0 H0 N ((t,.val τ)::BL t Γ) a w (λr=>if S r then w.heap[r]? else H r):=vn (s':= .val τ) hs ht S hS hv<|λ_ h=>h.elim
theorem amW(hs:Sat w0 H0 N Γ a w H)(ht:look Γ t=some (.buf E sz l)):∃H',Sat w0 H0 N ((t,.val<|GJ l)::BL t Γ) a w H':=by
 have hb:=hs.holds _<|BD ht
 let⟨xs,hr,ho,hn⟩:=hb;refine⟨_,eN hs (BD ht) (λb=>(Ae a t).ownBlock=some b) (λb h=>⟨h,(hn b h).2⟩) ?_⟩;refine Wh (a:=a) ⟨xs,hr,ho,hn⟩ ?_ (λb hb _ o hbo=>by simp[hb,hbo]);intro r o h;by_cases e:(Ae a t).ownBlock=some r
 .grind
 .simp[e,h]
def an0(ht:look Γ t=some (.buf E sz l)):IH w0 N Γ ((t,.val<|GJ l)::BL t Γ):=λ_ _ _ _ hs=>amW hs ht
theorem akH(hs:Sat w0 H0 N Γ a w H)(ht:look Γ t=some (.own T τ)):∃H',Sat w0 H0 N ((t,.val<|Jl τ)::BL t Γ) a w H':=by
 let⟨b,x,e,hb,hx,hH,hB⟩:=hs.holds _<|BD ht
 simp only at e;refine⟨_,eN hs (BD ht) (λc=>c=b) (λc h=>by subst h;exact⟨⟨_,e,rfl⟩,hB⟩) ?_⟩;have CW:=τ.shape hx;refine⟨b,0,x.cells,T,(0,0),e,by simp[hb],by rw[CW.size];omega,?_⟩;rw[xl CW.size,<-CW.eq];refine τ.mono ?_ hx;intro r o h;by_cases e:r=b
 .grind
 .simp[e,h]
def U7(ht:look Γ t=some (.own T τ)):IH w0 N Γ ((t,.val<|Jl τ)::BL t Γ):=λ_ _ _ _ hs=>akH hs ht
def GO(P:CP)(T:Ap)(E:Ap)(sz bytes:Nat):Bool:=
 match P.underlying T with
 |some (.slice e)=>Nat.beq e E&&(match P.info? e with
  |some i=>Nat.beq i.size sz&&Nat.beq i.bytes bytes&&(match i.zero with|some z=>Nat.beq z.cells.size sz|none=>false)&&Nat.ble 1 sz
  |none=>false)
 |_=>false
def aBa(h:GO P T E sz bytes=true):∃i z,P.underlying T=some (.slice E)/\P.info? E=some i/\i.zero=some z/\i.size=sz/\i.bytes=bytes/\z.cells.size=sz/\0<sz:=by
 unfold GO at h;split at h
 .rename_i e hu;simp only[C9] at h;let⟨h1,h2⟩:=h;have h1:=EF h1;subst h1;split at h2
  .rename_i i hi;simp only[C9] at h2;let⟨⟨⟨h3,h4⟩,h5⟩,h6⟩:=h2;split at h5
   .rename_i z hz;exact⟨i,z,hu,hi,hz,EF h3,EF h4,EF h5,Dx h6⟩
   .cases h5
  .cases h2
 .cases h
def lf(hT:GO P T E sz bytes=true){B:Nat}{n:Nat}{xs:A3 AV}(hown:w.ownsRow B E sz v n xs)(hB:B<=w.heap.size)
 {ad:A9 Addr}{m c:Nat}{news:A3 AV}(hl:news.length=m*sz)(arJ:∀j u,news[j]? =some u->∃x,ad=some x/\w.cell? (x.add j)=some u)(h1:∀u∈news,u.oneCell'=true)(had:ad=none->m=0)
 (H7:n+m<=maxLen)(Kj:(n+m)*bytes<=140737488355328)(ty:Ap):∃v' w',(Builtin.append_ #[T,T] ty #[v,.slice ad m c]).run P w= .ok v' w'/\w'.ownsRow B E sz v' (n+m) (xs++news)/\Ef w w' v.ownBlock/\∀b,v'.ownBlock=some b->v.ownBlock=some b\/w.heap.size<=b:=by
 let⟨i,z,hu,hi,hz,hsz,hby,hzs,hpos⟩:=aBa hT;cases ad with
 |none=>
  have hm:=had rfl;subst hm;have hn:news=[]:=LU (by simpa using hl);subst hn;refine⟨v,w,?_,by simpa using hown,⟨⟨rfl,rfl,rfl,BQ _,λ_ _ _=>rfl⟩,BQ _⟩,λb hb=> .inl hb⟩;rcases hown.2 with⟨rfl,rfl⟩|⟨g,cap,cur,rfl,hbg,hg,hnc,_⟩
  .simp[Builtin.append_,Ey hu,Go.sizeOf,typeInfo,program,Sem.run,hi,Builtin.lenOf,Builtin.firstCells]
  .simp[Builtin.append_,Ey hu,Go.sizeOf,typeInfo,program,Sem.run,hi,Builtin.lenOf,Builtin.firstCells,hnc,storeCells]
 |some ad=>
  have aR:∀j u,news[j]? =some u->w.cell? (ad.add j)=some u:=λj u h=>by let⟨x,e,hx⟩:=arJ j u h;cases e;exact hx
  let⟨v',w',hr,h2,h3,h4⟩:=run_append_own (P:=P) w B T ty E i z sz bytes hu hi hz hsz hby hzs hpos v n xs hown ad m c news hl aR h1 H7 Kj hB;have key:w.drawn<=w'.drawn/\∀b,v'.ownBlock=some b->v.ownBlock=some b\/w.heap.size<=b:=by
   subst hsz;subst hby;rcases hown.2 with⟨rfl,rfl⟩|⟨g,cap,cur,rfl,hbg,hg,hnc,hcm,hcs,htake⟩
   .by_cases hm:m=0
    .subst hm;have hf:=run_firstCells_some (P:=P) w i.size 0 ad 0 c news hl aR;have Hi:(Builtin.append_ #[T,T] ty #[.slice none 0 0,.slice (some ad) 0 c]).run P w= .ok (.slice none 0 0) w:=by have hn0:news=[]:=LU (by simpa using hl);subst hn0;simp[Builtin.firstCells] at hf;simp[Builtin.append_,Ey hu,Go.sizeOf,typeInfo,program,Sem.run,hi,Builtin.lenOf,Builtin.firstCells,loadCells,loadCellsFrom]
     rw[hr] at Hi;cases Hi;exact⟨BQ _,λb hb=>by simp[Value.ownBlock] at hb⟩
    .have tS:(m:Int)<=9223372036854775807:=by simp[maxLen] at H7;omega
     have Hi:=run_append_nil (P:=P) (w:=w) T ty E i z hu hi hz ad m c news hl aR (by omega) tS (by rw[Pd] at Kj;omega);rw[hr] at Hi;cases Hi;refine⟨Qj _,λb hb=>?_⟩;simp[Value.ownBlock] at hb;exact .inr (by omega)
   .by_cases Sw:n+m<=cap
    .have kR:n*i.size+news.length<=cur.size:=by rw[hl,hcs,<-Ke];exact LS _ Sw
     have Hi:=run_append_room (P:=P) w T ty E i hu hi g n cap cur hg ad m c news hl aR h1 Sw kR;rw[hr] at Hi;cases Hi;exact⟨BQ _,λb hb=> .inl hb⟩
    .have holds:∀j u,xs[j]? =some u->w.cell? ((⟨g,0,none⟩:Addr).add j)=some u:=hown.cells (g:=g) rfl;have tS:((n+m:Nat):Int)<=9223372036854775807:=by simp[maxLen] at H7;omega
     have Hi:=run_append_grow (P:=P) w T ty E i z hu hi hz ⟨g,0,none⟩ n cap xs hown.1 holds ad m c news hl aR (by omega) tS (growslice_fits (by omega) Kj);rw[hr] at Hi;cases Hi;refine⟨Qj _,λb hb=>?_⟩;simp[Value.ownBlock] at hb;exact .inr (by omega)
  exact⟨v',w',hr,h2,⟨h3,H9.of key.1⟩,key.2⟩
def nD{ty:Ap}(h1:E4 P T=true)(h2:E4 P T2=true)(args:BG AV)(w:AR):(Builtin.append_ #[T,T2] ty args).run P w=(Builtin.append_ #[T,T] ty args).run P w:=by
 let⟨e1,u1⟩:=fP h1;let⟨e2,u2⟩:=fP h2;unfold Builtin.append_;have g0:(#[T,T2]:BG Ap)[0]? =some T:=rfl;have g1:(#[T,T2]:BG Ap)[1]? =some T2:=rfl;have g2:(#[T,T]:BG Ap)[0]? =some T:=rfl;have g3:(#[T,T]:BG Ap)[1]? =some T:=rfl;simp[g0,g1,g2,g3];cases args[0]? with
 |none=>rfl
 |some a0=>cases args[1]? with
  |none=>rfl
  |some a1=>
   simp[E6,Ey u1,Dt];cases a0<;>try rfl
   simp[E6,Ey u1,Ey u2,Dt,K7]
def pO(h:GO P T E sz bytes=true):E4 P T=true:=by let⟨i,z,hu,_⟩:=aBa h;simp[E4,hu]
def p6(sub:∀r o,H r=some o->w.heap[r]? =some o)(h:(GJ l).ok H v):∃ad cap news,v= .slice ad l.length cap/\Db H l news/\(∀j u,news[j]? =some u->∃x,ad=some x/\w.cell? (x.add j)=some u)/\(ad=none->l.length=0):=by
 let⟨ad,cap,e,_,hx⟩:=h;by_cases hl:l=[]
 .subst hl;exact⟨ad,cap,[],e,rfl,λj u h=>by simp at h,λ_=>rfl⟩
 .let⟨b,off,cs,E,fr,e1,hb,hsz,ho⟩:=hx hl;refine⟨ad,cap,_,e,ho,?_,λe=>by rw[e1] at e;cases e⟩;intro j u hj;refine⟨⟨b,off,none⟩,e1,?_⟩;rw[addr_add];rw[WX] at hj;split at hj
  .simp at hj;simp[World.cell?,sub _ _ hb,hj]
  .cases hj
def xC(BI:∀q∈Ai,q∈Γ){s:Nat}(Gm:E4 P T2=true)(hs:look Ai s=some (.same t))(ht:look Ai t=some (.buf E sz l))(hx:Arg Ai x (GJ l2))(hT:GO P T E sz bytes=true)(hu:G1 sz l2)
 (H7:l.length+l2.length<=maxLen)(Kj:(l.length+l2.length)*bytes<=140737488355328)(DN:dd<N):Step P N ops ⟨some dd,.call ⟨.builtin .append,#[.tmp s,x],#[T,T2]⟩,ty,pos,af,none⟩ Γ ((dd,.buf E sz<|l++l2)::del dd (BL t Γ)):=by
 intro w0 H0 a w H BJ K Q k;simp[Region.wanted,if_true];have hb:=BJ.holds _ (BI _<|BD ht);let⟨xs,hr,ho,hn⟩:=hb;have e2:Ae a s=Ae a t:=BJ.holds _ (BI _<|BD hs);let⟨ad,cap,news,ex,ho2,hc,Uv⟩:=p6 BJ.sub<|hx.ok<|BJ.weaken BI
 have hlen:news.length=l2.length*sz:=by rw[N6 ho2,Ka hu]
 let⟨v',w',FC,h2,h3,h4⟩:=lf hT hr (FV _) (c:=cap) hlen hc (SG ho2) Uv H7 Kj ty;unfold Oper.wp;have er:(execOp a.eval ⟨some dd,.call ⟨.builtin .append,#[.tmp s,x],#[T,T2]⟩,ty,pos,af,none⟩).run P w= .ok (.value v') w':=by have e3:a.eval (.tmp s)=Ae a t:=e2;simp[execOp,resolve,invoke,builtin,e3,ex,nD (pO hT) Gm,FC]
 rw[er,OW];refine k _ w' H (Vx BJ (BI _<|BD ht) h3 (λc hc=>⟨hc,(hn c hc).2⟩) DN (by simp[AS.CD]) ⟨xs++news,by simpa using h2,S4 ho ho2,λb hb=>?_⟩ h4);rcases h4 b hb with h|h
 .exact hn b h
 .refine⟨?_,.inl<|Ch BJ.below.size h⟩;cases hh:H b with|none=>rfl|some o=>have:=HN BJ.sub hh;omega
def ahV(BI:∀q∈Ai,q∈Γ){s:Nat}{hv:v.oneCell'=true}(Gm:E4 P T2=true)(hs:look Ai s=some (.val<|TEq v hv))(ht:look Ai t=some (.O5 v E sz l))(hx:Arg Ai x (GJ l2))(hT:GO P T E sz bytes=true)(hu:G1 sz l2)
 (H7:l.length+l2.length<=maxLen)(Kj:(l.length+l2.length)*bytes<=140737488355328)(DN:dd<N):Step P N ops ⟨some dd,.call ⟨.builtin .append,#[.tmp s,x],#[T,T2]⟩,ty,pos,af,none⟩ Γ ((dd,.buf E sz<|l++l2)::del dd (BL t Γ)):=by
 intro w0 H0 a w H BJ K Q k;simp[Region.wanted,if_true];have hb:=BJ.holds _ (BI _<|BD ht);let⟨xs,hr,ho,hn⟩:=hb;have e2:Ae a s=v:=BJ.holds _ (BI _<|BD hs);let⟨ad,cap,news,ex,ho2,hc,Uv⟩:=p6 BJ.sub<|hx.ok<|BJ.weaken BI
 have hlen:news.length=l2.length*sz:=by rw[N6 ho2,Ka hu]
 let⟨v',w',FC,h2,h3,h4⟩:=lf hT hr (FV _) (c:=cap) hlen hc (SG ho2) Uv H7 Kj ty;unfold Oper.wp;have er:(execOp a.eval ⟨some dd,.call ⟨.builtin .append,#[.tmp s,x],#[T,T2]⟩,ty,pos,af,none⟩).run P w= .ok (.value v') w':=by have e3:a.eval (.tmp s)=v:=e2;simp[execOp,resolve,invoke,builtin,e3,ex,nD (pO hT) Gm,FC]
 rw[er,OW];refine k _ w' H (Vx BJ (BI _<|BD ht) h3 (λc hc=>⟨hc,(hn c hc).2⟩) DN (by simp[AS.CD]) ⟨xs++news,by simpa using h2,S4 ho ho2,λb hb=>?_⟩ h4);rcases h4 b hb with h|h
 .exact hn b h
 .refine⟨?_,.inl<|Ch BJ.below.size h⟩;cases hh:H b with|none=>rfl|some o=>have:=HN BJ.sub hh;omega
def aio{s:Nat}(Gm:E4 P T2=true)(hs:look Γ s=some (.same t))(ht:look Γ t=some (.buf E sz l))(hx:Arg Γ x (GJ l2))(hT:GO P T E sz bytes=true)(hu:G1 sz l2)
 (H7:l.length+l2.length<=maxLen)(Kj:(l.length+l2.length)*bytes<=140737488355328)(DN:dd<N):Step P N ops ⟨some dd,.call ⟨.builtin .append,#[.tmp s,x],#[T,T2]⟩,ty,pos,af,none⟩ Γ ((dd,.buf E sz<|l++l2)::del dd (BL t Γ)):=xC (λ_ h=>h) Gm hs ht hx hT hu H7 Kj DN
def ajf{s:Nat}(Gm:E4 P T2=true)(hs:look Γ s=some (.same t))(ht:look Γ t=some (.buf E sz l))(hx:Arg Γ x (GJ l2))(hT:GO P T E sz bytes=true)(hu:G1 sz l2)
 (H7:l.length+l2.length<=maxLen)(Kj:(l.length+l2.length)*bytes<=140737488355328)(DN:dd<N):QA P N ops Γ ⟨some dd,.call ⟨.builtin .append,#[.tmp s,x],#[T,T2]⟩,ty,pos,af,none⟩ t dd (.buf E sz<|l++l2):=λ_ BI=>xC BI Gm hs ht hx hT hu H7 Kj DN
def wL(BI:∀q∈Ai,q∈Γ)(Gm:E4 P T2=true)(ht:look Ai t=some (.buf E sz l))(hx:Arg Ai x (GJ l2))(hT:GO P T E sz bytes=true)(hu:G1 sz l2)
 (H7:l.length+l2.length<=maxLen)(Kj:(l.length+l2.length)*bytes<=140737488355328)(DN:dd<N):Step P N ops ⟨some dd,.call ⟨.builtin .append,#[.tmp t,x],#[T,T2]⟩,ty,pos,af,none⟩ Γ ((dd,.buf E sz<|l++l2)::del dd (BL t Γ)):=by
 intro w0 H0 a w H BJ K Q k;simp[Region.wanted,if_true];have hb:=BJ.holds _ (BI _<|BD ht);let⟨xs,hr,ho,hn⟩:=hb;let⟨ad,cap,news,ex,ho2,hc,Uv⟩:=p6 BJ.sub<|hx.ok<|BJ.weaken BI
 have hlen:news.length=l2.length*sz:=by rw[N6 ho2,Ka hu]
 let⟨v',w',FC,h2,h3,h4⟩:=lf hT hr (FV _) (c:=cap) hlen hc (SG ho2) Uv H7 Kj ty;unfold Oper.wp;have er:(execOp a.eval ⟨some dd,.call ⟨.builtin .append,#[.tmp t,x],#[T,T2]⟩,ty,pos,af,none⟩).run P w= .ok (.value v') w':=by have e3:a.eval (.tmp t)=Ae a t:=rfl;simp[execOp,resolve,invoke,builtin,e3,ex,nD (pO hT) Gm,FC]
 rw[er,OW];refine k _ w' H (Vx BJ (BI _<|BD ht) h3 (λc hc=>⟨hc,(hn c hc).2⟩) DN (by simp[AS.CD]) ⟨xs++news,by simpa using h2,S4 ho ho2,λb hb=>?_⟩ h4);rcases h4 b hb with h|h
 .exact hn b h
 .refine⟨?_,.inl<|Ch BJ.below.size h⟩;cases hh:H b with|none=>rfl|some o=>have:=HN BJ.sub hh;omega
def ahW(Gm:E4 P T2=true)(ht:look Γ t=some (.buf E sz l))(hx:Arg Γ x (GJ l2))(hT:GO P T E sz bytes=true)(hu:G1 sz l2)
 (H7:l.length+l2.length<=maxLen)(Kj:(l.length+l2.length)*bytes<=140737488355328)(DN:dd<N):Step P N ops ⟨some dd,.call ⟨.builtin .append,#[.tmp t,x],#[T,T2]⟩,ty,pos,af,none⟩ Γ ((dd,.buf E sz<|l++l2)::del dd (BL t Γ)):=wL (λ_ h=>h) Gm ht hx hT hu H7 Kj DN
def ahz(Gm:E4 P T2=true)(ht:look Γ t=some (.buf E sz l))(hx:Arg Γ x (GJ l2))(hT:GO P T E sz bytes=true)(hu:G1 sz l2)
 (H7:l.length+l2.length<=maxLen)(Kj:(l.length+l2.length)*bytes<=140737488355328)(DN:dd<N):QA P N ops Γ ⟨some dd,.call ⟨.builtin .append,#[.tmp t,x],#[T,T2]⟩,ty,pos,af,none⟩ t dd (.buf E sz<|l++l2):=λ_ BI=>wL BI Gm ht hx hT hu H7 Kj DN
def Nn(ht:look Γ t=some s)(hl:s.CD=[])(DN:dd<N)(o:Op)(ho:o= .assign (.tmp t)\/o= .move (.tmp t)):QA P N ops Γ ⟨some dd,o,ty,pos,af,none⟩ t dd s:=by
 intro EP BI w0 H0 a w H BJ K Q k;simp[Region.wanted,if_true];have er:(execOp a.eval ⟨some dd,o,ty,pos,af,none⟩).run P w= .ok (.value<|Ae a t) w:=by rcases ho with rfl|rfl<;>rfl
 unfold Oper.wp;rw[er,OW];exact k _ w H (Vx BJ (BI _<|BD ht) (nv w) (λ_ e=>by cases e) DN (by rw[hl];simp) (BJ.holds _<|BI _<|BD ht) λ_ h=> .inl h)
def Co(ht:look Γ t=some s)(hl:s.CD=[])(DN:dd<N)(o:Op)(ho:o= .assign (.tmp t)\/o= .move (.tmp t)):Step P N ops ⟨some dd,o,ty,pos,af,none⟩ Γ ((dd,s)::del dd (BL t Γ)):=by
 intro w0 H0 a w H BJ K Q k;simp[Region.wanted,if_true];have er:(execOp a.eval ⟨some dd,o,ty,pos,af,none⟩).run P w= .ok (.value<|Ae a t) w:=by rcases ho with rfl|rfl<;>rfl
 unfold Oper.wp;rw[er,OW];exact k _ w H (Vx BJ (BD ht) (nv w) (λ_ e=>by cases e) DN (by rw[hl];simp) (BJ.holds _<|BD ht) λ_ h=> .inl h)
def Ad{a:Nat}(h:Nat.blt a b=true):a<b:=Dx h
def Ip(n:Nat)(agg:Bool):Ty where
 n:=n
 agg:=agg
 ok:=λ_ v=>Shape n agg v
 mono:=λ_ h=>h
 shape:=λh=>h
def aji(cs0:BG AV)(off:Nat):∀(l:A3 AV) (k:Nat),(off+k+l.length<=cs0.size)->(l.zipIdx k).foldl (λcs (x:AV×Nat)=>cs.setIfInBounds (off+x.2) x.1) cs0=(cs0.toList.take (off+k)++l++cs0.toList.drop (off+k+l.length)).toArray:=by
 intro l
 induction l generalizing cs0 with
 |nil=>intro k _;simp
 |cons v l ih=>
  intro k hk;simp[E2] at hk;simp[List.zipIdx_cons,iP];rw[ih _ (k+1) (by simp;omega)]
  congr 1
  simp[j6,E2];have hlt:off+k<cs0.toList.length:=by simp;omega
  have h1:List.take (off+(k+1)) (cs0.toList.set (off+k) v)=List.take (off+k) cs0.toList++[v]:=by rw[<-LM,List.take_succ_eq_append_getElem (by simpa using hlt)];simp[List.take_set];rw[List.set_eq_of_length_le (by simp;omega)]
  have h2:List.drop (off+(k+1)+l.length) (cs0.toList.set (off+k) v)=List.drop (off+k+(l.length+1)) cs0.toList:=by
   rw[iY (by omega)]
   congr 1;omega
  rw[h1,h2];simp
inductive E8(P:CP)(Γ:Ctx):A3 (Nat×CR)->A3 Ty->A3 Ty->Prop where
 |nil {l:A3 Ty}:E8 P Γ [] l l|cons {i:Nat} {x:CR} {τ σ:Ty} {ps:A3 (Nat×CR)} {l l':A3 Ty} (hx:Arg Γ x σ) (hi:l[i]? =some τ) (hn:σ.n=τ.n) (r:E8 P Γ ps (l.set i σ) l'):E8 P Γ ((i,x)::ps) l l'
def Fa(l:A3 Ty):A3 Nat:=l.map (·.n)
def zL(h:l[i]? =some τ)(hn:σ.n=τ.n):Fa (l.set i σ)=Fa l:=by
 simp[Fa,UE];apply WT;intro j;rw[List.getElem?_set];split
 .rename_i e;subst e;split
  .simp[h,hn]
  .rename_i hlt;have:=(FX.1 h).1;simp at hlt;omega
 .rfl
def E8.fill{ps:A3 (Nat×CR)}{l l':A3 Ty}(h:E8 P Γ ps l l'){place:Nat->A9 (Nat×Nat)}(Js:∀i n,(Fa l)[i]? =some n->place i=some (((Fa l).take i).sum,n))
  {w0:Ah P}{H0:HV}{N:Nat}{a:Act}{w:AR}{H:HV}(hs:Sat w0 H0 N Γ a w H):∀{cells:BG AV},Db H l cells.toList->∃HM,Instr.fill place cells (ps.map λp=>(p.1,a.eval p.2))=some HM/\Db H l' HM.toList:=by
 induction h with
 |nil=>exact λh=>⟨_,rfl,h⟩
 | @cons i x τ σ ps l l' hx hi hn r ih=>
  intro cells Az;have hv:=hx.ok hs;have hsz:=(σ.shape hv).size;let⟨p1,_⟩:=Nb Az hi;have Mp:=UA Az hi hn hv;have abm:=Js i τ.n (by simp[Fa,hi]);have tK:((Fa l).take i).sum=CS (l.take i):=by simp[Fa,CS,qe]
  rw[tK] at abm;have hlen:cells.toList.length=cells.size:=by simp
  rw[hlen] at p1;have acU:=aji cells (CS<|l.take i) (a.eval x).cells.toList 0 (by simp;omega);simp only[UF,Fv] at acU;have hnn:(a.eval x).cells.size=τ.n:=by omega
  let⟨HM,h1,h2⟩:=ih (by rw[zL hi hn];exact Js) (cells:=(cells.toList.take (CS<|l.take i)++(a.eval x).cells.toList++cells.toList.drop (CS (l.take i)+(a.eval x).cells.size)).toArray) (by rw[hnn];simpa using Mp);refine⟨HM,?_,h2⟩;simp only[MW,Instr.fill,abm];rw[if_neg (by simp;omega)];have e:Array.foldl (λcs (x:AV×Nat)=>cs.setIfInBounds (CS (List.take i l)+x.snd) x.fst) cells (a.eval x).cells.zipIdx=(List.take (CS<|List.take i l) cells.toList++(a.eval x).cells.toList++List.drop (CS (List.take i l)+(a.eval x).cells.size) cells.toList).toArray:=by rw[<-acU,<-Array.foldl_toList,Array.toList_zipIdx]
  rw[<-h1]
  congr 1
def Ng(P:CP)(T:Ap)(ns:A3 Nat):Bool:=
 match P.underlying T with|some (.struct fs)=>fs.toList.map (·.offset)==(List.range ns.length).map (λi=>(ns.take i).sum)&&(fs.toList.map (λf=>(P.info? f.type).map (·.size))==ns.map some)|_=>false
theorem ahv{fs:A3 Field}:∀{ns:A3 Nat},fs.map (λf=>(P.info? f.type).map (·.size))=ns.map some->∀w,(fs.mapM λf=>do pure (f.offset,<-Go.sizeOf f.type):Sem (A3<|Nat×Nat)).run P w= .ok ((fs.map (·.offset)).zip ns) w:=by
 induction fs with
 |nil=>intro ns h w;cases ns<;>simp_all
 |cons f fs ih=>
  intro ns h w;cases ns with
  |nil=>simp at h
  |cons n ns=>
   simp only[MW,List.cons.injEq] at h;let⟨h1,h2⟩:=h;cases hi:P.info? f.type with
   |none=>rw[hi] at h1;cases h1
   |some i=>rw[hi] at h1;simp at h1;have:=ih h2 w;simp only[List.mapM_cons,E6,Go.sizeOf,typeInfo,program,Sem.run,hi,K7,Dt,h1];simp only[Go.sizeOf,typeInfo,program] at this;rw[this];simp
def gI(hz:Du P T (DH l))(hT:Ng P T (Fa l)=true)(hp:E8 P Γ ps l l'):B0 P Γ ⟨d,.build T ps.toArray,ty,pos,af,g⟩ (.val<|DH l'):=
 Dp λw0 H0 N a w H hs=>by
  let⟨z,hzr,hzo⟩:=hz.run w;obtain⟨zc,rfl,tC⟩:=hzo H;unfold Ng at hT;split at hT
  .rename_i fs hu;simp[C9,Qh] at hT;let⟨h1,h2⟩:=hT;have hm:=ahv h2 w;have Js:∀i n,(Fa l)[i]? =some n->((fs.toList.map (·.offset)).zip<|Fa l).toArray[i]? =some (((Fa l).take i).sum,n):=by intro i n hi;have hlt:=(FX.1 hi).1;simp[List.getElem?_toArray,h1];rw[qd];refine⟨?_,hi⟩;simp[hlt]
   let⟨HM,hf,Az⟩:=hp.fill Js hs tC;have hmA:(fs.mapM λf=>do pure (f.offset,<-Go.sizeOf f.type):Sem (BG<|Nat×Nat)).run P w= .ok ((fs.toList.map (·.offset)).zip<|Fa l).toArray w:=by
    have e:(fs.mapM λf=>do pure (f.offset,<-Go.sizeOf f.type):Sem (BG<|Nat×Nat))=List.toArray<$>(fs.toList.mapM λf=>do pure (f.offset,<-Go.sizeOf f.type)):=by rw[<-List.mapM_toArray]
    rw[e,Sem.run_map,hm]
    rfl
   refine⟨.agg HM,?_,⟨HM,rfl,Az⟩,rfl⟩;have e2:(ps.toArray.map λ(i,x)=>(i,a.eval x)).toList=ps.map λp=>(p.1,a.eval p.2):=by simp
   have hf':Instr.fill (λi=>((fs.toList.map (·.offset)).zip<|Fa l).toArray[i]?) zc (ps.toArray.map λ(i,x)=>(i,a.eval x)).toList=some HM:=by rw[e2];exact hf
   simp only[execOp,Instr.build,E6,hzr,Dt,Ey hu,Value.cells];rw[hmA];simp only[Dt];rw[hf'];simp
  .cases hT
def YQ{n:Nat}(hz:Du P T (DH l))(hT:Lf P T n sz=true)(hu:G1 sz l)(hp:E8 P Γ ps l l'):B0 P Γ ⟨d,.build T ps.toArray,ty,pos,af,g⟩ (.val<|DH l'):=
 Dp λw0 H0 N a w H hs=>by
  let⟨z,hzr,hzo⟩:=hz.run w;obtain⟨zc,rfl,tC⟩:=hzo H;let⟨e,i,hue,hi,hsz⟩:=pN hT;have Js:∀i n,(Fa l)[i]? =some n->(λi=>some (i*sz,sz)) i=some (((Fa l).take i).sum,n):=by
   intro i n hi;have hlt:=(FX.1 hi).1;simp[Fa] at hlt;simp[Fa,HL,Option.map_eq_some_iff] at hi;obtain⟨τ,hτ,rfl⟩:=hi;have h1:=hu τ<|KC hτ
   have h2:=Ka<|hu.take i
   simp only[CS,EK,EZ<|WH hlt] at h2;simp[Fa,<-List.map_take,h1,h2]
  let⟨HM,hf,Az⟩:=hp.fill Js hs tC;refine⟨.agg HM,?_,⟨HM,rfl,Az⟩,rfl⟩;have e2:(ps.toArray.map λ(i,x)=>(i,a.eval x)).toList=ps.map λp=>(p.1,a.eval p.2):=by simp
  have hf':Instr.fill (λi=>some (i*sz,sz)) zc (ps.toArray.map λ(i,x)=>(i,a.eval x)).toList=some HM:=by rw[e2];exact hf
  have IM:(Go.sizeOf e).run P w= .ok sz w:=by simp[Go.sizeOf,typeInfo,program,Sem.run,hi,hsz]
  simp only[execOp,Instr.build,E6,hzr,Dt,Ey hue,Value.cells,IM];rw[hf'];simp
def oi{z:AV}(hz:τ.ok H z)(n:Nat):Db H (List.replicate n τ) ((Array.range<|n*τ.n).map<|λi=>z.cells[i%z.cells.size]!).toList:=by
 have hs:=τ.shape hz
 induction n with
 |zero=>simp[Db]
 |succ n ih=>
  have e:((Array.range<|(n+1)*τ.n).map<|λi=>z.cells[i%z.cells.size]!).toList=((Array.range<|n*τ.n).map<|λi=>z.cells[i%z.cells.size]!).toList++z.cells.toList:=by
   simp[Array.toList_map,Array.toList_range];rw[SY,List.range_add,Ic,Nk]
   congr 1
   apply List.ext_getElem
   .simp[hs.size]
   .intro i h1 h2;simp at h2;simp[List.getElem_map,List.getElem_range,Function.comp,Array.getElem_toList];rw[hs.size,Pc,Nat.add_mul_mod_self_right,Sd (by rw[<-hs.size];exact h2)];rw[K6]
  rw[e,List.replicate_succ'];exact S4 ih ⟨z,[],by simp,hz,rfl⟩
def HE(P:CP)(T:Ap)(E:Ap)(sz:Nat):Bool:=
 match P.underlying T with
 |some (.slice e)=>Nat.beq e E&&(match P.info? e with|some i=>Nat.beq i.size sz|none=>false)
 |_=>false
def vS{n:Nat}(hz:Du P E τ)(hT:HE P T E sz=true)(hsz:τ.n=sz)(hpos:Nat.blt 0 (n*sz)=true)(hn:Nat.ble (n*sz) 16777216=true)(hp:E8 P Γ ps (List.replicate n τ) l')(hl:l'.length=n):B0 P Γ ⟨d,.buildSlice T n ps.toArray,ty,pos,af,g⟩ (.val<|GJ l'):=
 MM λw0 H0 N a w H hs=>by
  let⟨z,hzr,hzo⟩:=hz.run w;have arI:=Ad hpos;unfold HE at hT;split at hT
  .rename_i e hu;simp only[C9] at hT;let⟨h1,h2⟩:=hT;have h1:=EF h1;subst h1;split at h2
   .rename_i i hi;have h2:=EF h2;have hz0:=oi (hzo H) n;rw[hsz] at hz0;have Js:∀i m,(Fa<|List.replicate n τ)[i]? =some m->(λi=>some (i*sz,sz)) i=some (((Fa<|List.replicate n τ).take i).sum,m):=by
     intro i m hi;simp only[Fa,iW,List.getElem?_replicate] at hi;split at hi
     .rename_i hlt;simp at hi;subst hi;simp[Fa,iW,Zk,hsz,EZ<|WH hlt]
     .cases hi
    let⟨HM,hf,Az⟩:=hp.fill Js hs hz0;have e2:(ps.toArray.map λ(i,x)=>(i,a.eval x)).toList=ps.map λp=>(p.1,a.eval p.2):=by simp
    have IM:(Go.sizeOf e).run P w= .ok sz w:=by simp[Go.sizeOf,typeInfo,program,Sem.run,hi,h2]
    have hle:n*sz<=16777216:=Dx hn;have au9:∀zc:BG AV,((Array.range<|n*sz).map<|λi=>zc[i%zc.size]!)=((Array.range<|n*sz).map<|λi=>z.cells[i%z.cells.size]!)->Instr.fill (λi=>some (i*sz,sz)) ((Array.range<|n*sz).map<|λi=>zc[i%zc.size]!) (ps.toArray.map λ(i,x)=>(i,a.eval x)).toList=some HM:=by intro zc hzc;rw[hzc,e2];exact hf
    have hb:Fc w.heap.size w (w.alloc<| .cells HM e):=Fc.alloc _;refine⟨.slice (some ⟨w.heap.size,0,none⟩) n n,w.alloc<| .cells HM e,grow H w<|w.alloc<| .cells HM e,?_,Ext.grown hs.sub hb,?_,λb hb=>absurd hb<|AS.free_spec rfl⟩
    .have h0: ¬n*sz=0:=by omega
     have hff:=au9 z.cells rfl;simp only[execOp,Instr.buildSlice,E6,Dt,Ey hu,IM];rw[if_neg (by omega)];simp only[E6,K7,Dt,if_neg h0,hzr];rw[hff];simp[newRow]
    .refine⟨_,n,by rw[hl],by omega,λ_=>⟨w.heap.size,0,HM,e,(0,0),rfl,?_,?_,?_⟩⟩
     .simp only[grow,Nat.lt_irrefl,if_false];exact Lx w _
     .have:=N6 Az;simp at this;omega
     .have hlen:=N6 Az;rw[Pg,D6 (by omega)];exact QW (Ext.grown hs.sub hb).le Az
   .cases h2
  .cases hT
end
section
variable[D:DR]
variable{P:Program}{w0:Ah P}{H0:HV}{N:Nat}{Γ Aq:Ctx}{d:Option Tmp}{ty:TypeId}{pos:String}{af:Array Edge}{g:Option (Nat×Bool)}
def A7{Q:Exit->Act->AR->Prop}{y:Code}(h:Goal P w0 H0 N y Q Γ):EN w0 H0 N (λa w=>y.wpIn (Fx w0.rd) 0 P Q a w) Γ:=h
def sc(t:Nat){s:AS}{ts:A3 Nat}(h:look Γ t=some s)(r:EU Γ ts Aq):EU Γ (t::ts) ((t,s)::Aq):=EU.cons h r
end
section
variable[D:DR]
variable{P:Program}{w0:Ah P}{H0:HV}{N:Nat}{ops:Array Oper}{Γ Aq:Ctx}{d:Option Tmp}{ty:TypeId}{pos:String}{af:Array Edge}{g:Option (Nat×Bool)}
variable{sz:Nat}{l:A3 Ty}{T E:Ap}{x:CR}{t j p:Nat}{σ:Ty}{H:HV}{ρ:Ty}
def mkB(P:CP)(T E sz bytes:Nat):Bool:=
 match P.underlying T with
 |some (.slice e)=>Nat.beq e E&&(match P.info? e with|some i=>Nat.beq i.size sz&&Nat.beq i.bytes bytes&&Nat.blt 0 sz|none=>false)
 |_=>false
theorem an7{bytes:Nat}{y:CR}{n:Nat}{τ:Ty}(hT:mkB P T E sz bytes=true)(hz:Du P E τ)(hsz:τ.n=sz)(hx:Arg Γ x (TI .i64 n))(hy:Arg Γ y (TI .i64 n))(hn:n<=9223372036854775807)(hb:bytes*n<=140737488355328):B0 P Γ ⟨d,.makeSlice T x y,ty,pos,af,g⟩ (.buf E sz<|List.replicate n τ):=
 MM λw0 H0 N a w H hs=>by
  let⟨z,hzr,hzo⟩:=hz.run w;have e1:a.eval x= .int .i64 n:=hx.ok hs;have e2:a.eval y= .int .i64 n:=hy.ok hs;unfold mkB at hT;split at hT
  .rename_i e hu;simp only[C9] at hT;let⟨h1,h2⟩:=hT;have h1:=EF h1;subst h1;split at h2
   .rename_i i hi;simp only[C9] at h2;let⟨⟨h2,h3⟩,h4⟩:=h2;have h2:=EF h2;have h3:=EF h3;have h4:=Ad h4;have hz0:=oi (hzo H) n;rw[hsz] at hz0;have hw:IntKind.i64.wrap (n:Int)=n:=wrap_i64 (by unfold DW;omega);have NT: ¬((bytes:Int)*n>2^48):=by grind
    have IM:∀w,(Go.sizeOf e).run P w= .ok sz w:=λw=>by simp[Go.sizeOf,typeInfo,program,Sem.run,hi,h2]
    have hti:∀w,(typeInfo e).run P w= .ok i w:=λw=>by simp[typeInfo,program,Sem.run,hi]
    have Sw:askRoom ((n:Int).toNat*i.bytes)=pure ():=by unfold askRoom roomBytes;rw[if_neg];rw[h3,Ci,MV];omega
    have Bg:Fc w.heap.size w (w.alloc<| .cells ((Array.range<|n*sz).map<|λi=>z.cells[i%z.cells.size]!) e):=Fc.alloc _;have FC:(Instr.makeSlice T (.int .i64 n)<| .int .i64 n).run P w= .ok (.slice (some ⟨w.heap.size,0,none⟩) n n) (w.alloc<| .cells ((Array.range<|n*sz).map<|λi=>z.cells[i%z.cells.size]!) e):=by
     have Io: ¬((n:Int)<0):=by omega
     unfold Instr.makeSlice;simp only[E6,Ey hu,Dt,asInt,asIntOf,K7,hti,hw,h3,Sw,Ci,IM];have ark:(decide ((n:Int)<0)||decide ((bytes:Int)*n>2^48))=false:=by simp[Io];omega
     simp only[ark];simp[UM,false_or,Io,Int.lt_irrefl,or_self,if_false,E6,K7,Dt,IM];by_cases h0:n*sz=0
     .have Kz:(Array.range 0:BG Nat)= #[]:=rfl;simp[IM,h0,newRow,Kz]
     .simp[IM,h0,hzr,newRow]
    refine⟨_,_,H,by simp only[execOp,e1,e2,E6,FC,Dt];rfl,Ext.alloc hs.sub _,⟨((Array.range<|n*sz).map<|λi=>z.cells[i%z.cells.size]!).toList,⟨by simp,.inr ⟨w.heap.size,n,_,by simp,FV _,Lx w _,by simp,?_,by simp,?_⟩⟩,hz0,?_⟩,?_⟩
    .simp[maxLen];omega
    .rw[D6 (by simp)]
    .intro b hb;simp[Value.ownBlock] at hb;subst hb;refine⟨?_,.inl hs.below.size⟩;cases hh:H w.heap.size with|none=>rfl|some o=>have:=HN hs.sub hh;omega
    .intro b hb;simp[AS.owns,Value.ownBlock] at hb;omega
   .cases h2
  .cases hT
theorem WB{B:Ah P}{a:Act}{w:AR}{v:AV}(h:(AS.buf E sz l).holds B a w H v)(hne:l≠[]):∃b cap cs xs,v= .slice (some ⟨b,0,none⟩) l.length cap/\w.heap[b]? =some (.cells cs E (0,0))/\l.length<=cap/\cap<=maxLen/\cs.size=cap*sz/\xs.length=l.length*sz/\cs.toList.take (l.length*sz)=xs/\Db H l xs/\H b=none/\B.EH b:=by
 let⟨xs,⟨hx,hc⟩,ho,hn⟩:=h;rcases hc with⟨e,hl⟩|⟨g,cap,cur,e,hB,hg,hcap,hm,hcs,ht⟩
 .grind
 .subst e;exact⟨g,cap,cur,xs,rfl,hg,hcap,hm,hcs,hx,ht,ho,(hn g rfl).1,(hn g rfl).2⟩
def afw{s:Nat}{ix:CR}{k:IntKind}{i:Int}(hs:look Γ s=some (.same t))(ht:look Γ t=some (.buf E sz l))(hT:GP P T sz=true)(hi:Arg Γ ix (TI k i))(h0:0<=i)(h1:i<l.length):B0 P Γ ⟨d,.indexAddr T (.tmp s) ix,ty,pos,af,g⟩ (.KH t i.toNat sz):=
 Dp λw0 _ _ a w H BJ=>by
  let⟨b,cap,cs,xs,e,hb,_⟩:=WB (BJ.holds _<|BD ht) (λe=>by rw[e] at h1;simp at h1;omega);have e2:Ae a s=Ae a t:=BJ.holds _<|BD hs
  have e3:a.eval (.tmp s)= .slice (some ⟨b,0,none⟩) l.length cap:=e2.trans e;have ei:a.eval ix= .int k i:=hi.ok BJ;exact⟨.pointer<|some ⟨b,0+i.toNat*sz,none⟩,by simp[execOp,e3,ei,lZ hT b 0 l.length cap h0 h1],⟨b,_,cap,e,by simp⟩,rfl⟩
theorem afv(hp:look Γ p=some (.KH t j sz))(ht:look Γ t=some (.buf E sz l))(hu:G1 sz l)(hj:l[j]? =some σ)(hT:Bv P T σ.n σ.agg=true):B0 P Γ ⟨d,.load T<| .tmp p,ty,pos,af,g⟩ (.val σ):=
 Dp λw0 _ _ a w H BJ=>by
  have Jv:=(FX.1 hj).1;let⟨b,cap,cs,xs,e,hb,hcap,_,hcs,hx,htake,ho,_,_⟩:=WB (BJ.holds _<|BD ht) (λe=>by rw[e] at Jv;simp at Jv);let⟨b',sx,bI,e1,e2⟩:=BJ.holds _<|BD hp
  simp only at e e1;rw[e] at e1;cases e1;have e3:a.eval (.tmp p)= .pointer (some ⟨b,j*sz,none⟩):=e2;let⟨p1,p2⟩:=Nb ho hj;have hc:CS (l.take j)=j*sz:=by rw[Ka<|hu.take _,EK,EZ (by omega)]
  rw[hc] at p1 p2;have sE:l.length*sz<=cs.size:=by grind
  have OC:List.take σ.n (List.drop (j*sz) cs.toList)=List.take σ.n (List.drop (j*sz) xs):=by
   rw[<-htake,MX,OV]
   congr 1;omega
  refine⟨_,?_,p2,rfl⟩;have hr:=Rp (P:=P) hT hb (off:=j*sz) (by omega);rw[OC] at hr;simp[execOp,e3,Instr.loadAt,Instr.sureAddr,hr]
def yh{α:Type _}{cs y:A3 α}{o s n:Nat}(hy:y.length=s)(h1:o+s<=n)(h2:n<=cs.length):List.take n (cs.take o++y++cs.drop (o+s))=List.take o (cs.take n)++y++List.drop (o+s) (cs.take n):=by
 have e1:(cs.take o++y).length=o+s:=by simp[hy];omega
 rw[WR,e1,D6 (by omega),OV,EZ (by omega),MX]
theorem uv{Ai:Ctx}(BI:∀q∈Ai,q∈Γ)(hp:look Ai p=some (.KH t j sz))(ht:look Ai t=some (.buf E sz l))(hu:G1 sz l)(hj:l[j]? =some ρ)(hx:Arg Ai x σ)(hn:σ.n=sz)(hT:Bv P T σ.n σ.agg=true):Step P N ops ⟨none,.store T (.tmp p) x,ty,pos,af,none⟩ Γ ((t,.buf E sz<|l.set j σ)::BL t Γ):=by
 intro w0 H0 a w H BJ K Q k;simp[Region.wanted,if_true];have Jv:=(FX.1 hj).1;let⟨b,cap,cs,xs,e,hb,hcap,hml,hcs,GZ,htake,ho,hH,hB⟩:=WB (BJ.holds _ (BI _<|BD ht)) (λe=>by rw[e] at Jv;simp at Jv);let⟨b',sx,bI,e1,e2⟩:=BJ.holds _ (BI _<|BD hp);simp only at e e1;rw[e] at e1;cases e1;have ep:a.eval (.tmp p)= .pointer (some ⟨b,j*sz,none⟩):=e2;have Hx:=hx.ok<|BJ.weaken BI
 have CW:=σ.shape Hx;have hρ:ρ.n=sz:=hu ρ<|KC hj
 have hc:CS (l.take j)=j*sz:=by rw[Ka<|hu.take _,EK,EZ (by omega)]
 let⟨p1,_⟩:=Nb ho hj;rw[hc,hρ] at p1;have Mp:=UA ho hj (hn.trans hρ.symm) Hx;rw[hc,hρ] at Mp;have sE:l.length*sz<=cs.size:=by grind
 have FC:=TT (P:=P) (off:=j*sz) (U4 hT) CW.size hb (by rw[hn];omega) CW.cell;rw[hn] at FC;unfold Oper.wp;have er:(execOp a.eval ⟨none,.store T (.tmp p) x,ty,pos,af,none⟩).run P w= .ok .skip (w.setRow b (cs.toList.take (j*sz)++(a.eval x).cells.toList++cs.toList.drop (j*sz+sz)).toArray):=by simp[execOp,ep,Instr.storeAt,Instr.sureAddr,FC]
 rw[er,Qk]
 generalize tQ:(cs.toList.take (j*sz)++(a.eval x).cells.toList++cs.toList.drop (j*sz+sz)).toArray=ED
 have hg:Ef w (w.setRow b ED) (some b):=Ef.setRow w b _;have hlen:(a.eval x).cells.toList.length=sz:=by rw[Fv,CW.size,hn]
 refine k a _ H (PB BJ (BI _<|BD ht) hg hB (by simp[AS.owns,e,Value.ownBlock]) ?_ λc hc=> .inl hc);refine⟨_,⟨?_,.inr ⟨b,cap,ED,by simpa using e,FV _,UC w b _ _ _ _ hb,by simpa using hcap,hml,?_,rfl⟩⟩,?_,?_⟩
 .grind
 .grind
 .have:List.take (l.length*sz) ED.toList=List.take (j*sz) xs++(a.eval x).cells.toList++List.drop (j*sz+sz) xs:=by rw[<-tQ,<-htake];exact yh hlen (by omega) (by simp;omega)
  simp[LP];rw[this];exact Mp
 .intro c hc;simp[e,Value.ownBlock] at hc;subst hc;exact⟨hH,hB⟩
def afT(hp:look Γ p=some (.KH t j sz))(ht:look Γ t=some (.buf E sz l))(hu:G1 sz l)(hj:l[j]? =some ρ)(hx:Arg Γ x σ)(hn:σ.n=sz)(hT:Bv P T σ.n σ.agg=true):Step P N ops ⟨none,.store T (.tmp p) x,ty,pos,af,none⟩ Γ ((t,.buf E sz<|l.set j σ)::BL t Γ):=uv (λ_ h=>h) hp ht hu hj hx hn hT
def aew(hp:look Γ p=some (.KH t j sz))(ht:look Γ t=some (.buf E sz l))(hu:G1 sz l)(hj:l[j]? =some ρ)(hx:Arg Γ x σ)(hn:σ.n=sz)(hT:Bv P T σ.n σ.agg=true):P3 P N ops Γ ⟨none,.store T (.tmp p) x,ty,pos,af,none⟩ t (.buf E sz<|l.set j σ):=λ_ BI=>uv BI hp ht hu hj hx hn hT
def vT(hu:G1 sz l):∀{cs:A3 AV},Db H l cs->∀(lo hi:Nat),Db H ((l.take hi).drop lo) ((cs.take<|hi*sz).drop<|lo*sz):=by
 induction l with
 |nil=>intro cs h lo hi;have:cs=[]:=h;subst this;simp[Db]
 |cons τ l ih=>
  rintro cs ⟨v,rest,e,hv,hr⟩ lo hi;subst e;have h1:τ.n=sz:=hu τ (by simp);have hvs:v.cells.toList.length=sz:=by rw[Fv,(τ.shape hv).size,h1]
  cases hi with
  |zero=>simp[Db]
  |succ hi=>
   have ht:List.take ((hi+1)*sz) (v.cells.toList++rest)=v.cells.toList++List.take (hi*sz) rest:=by
    rw[SY,Pc,WR,hvs,D6 (by omega)]
    congr 2;omega
   rw[ht];cases lo with
   |zero=>have:=ih (λx hx=>hu x (by simp[hx])) hr 0 hi;simp[Pg,iC,ie] at this⊢;exact⟨v,_,rfl,hv,this⟩
   |succ lo=>
    have hd:List.drop ((lo+1)*sz) (v.cells.toList++List.take (hi*sz) rest)=List.drop (lo*sz) (List.take (hi*sz) rest):=by rw[SY,Pc,Nl,hvs,NG (by omega)];simp
    rw[hd];exact ih (λx hx=>hu x (by simp[hx])) hr lo hi
theorem aob(hu:G1 sz l){ad:A9 Addr}{len cap:Nat}(h:(GJ l).ok H (.slice ad len cap)){lo hi m:Nat}(hlh:lo<=hi)(hhl:hi<=l.length)(nc:Nat)(hnc:hi-lo<=nc)(hm:m=lo->lo=hi):(GJ<|(l.take hi).drop lo).ok H (.slice (if m=lo then ad else ad.map (·.add (lo*sz))) (hi-lo) nc):=by
 let⟨ad',bI,e,hcap,hx⟩:=h;cases e;have hlen:((l.take hi).drop lo).length=hi-lo:=by simp;omega
 refine⟨if m=lo then ad else ad.map (·.add (lo*sz)),nc,by rw[hlen],by omega,λhne=>?_⟩;have hne':l≠[]:=by grind
 have hlt:lo<hi:=by grind
 let⟨b,off,cs,E,fr,e1,hb,hs,ho⟩:=hx hne';subst e1;have hml: ¬m=lo:=λe=>by have:=hm e;omega
 have hlc:CS l=l.length*sz:=Ka hu;have BI:(G1 sz<|(l.take hi).drop lo):=λx hx=>hu x<|Qp<|UO hx
 have hcn:CS ((l.take hi).drop lo)=(hi-lo)*sz:=by rw[Ka BI,hlen]
 have hmul:hi*sz<=l.length*sz:=LS _ hhl;have awA:(hi-lo)*sz+lo*sz=hi*sz:=by rw[<-Ke];congr 1;omega
 refine⟨b,off+lo*sz,cs,E,fr,by simp[hml,addr_add],hb,by omega,?_⟩;have:=vT hu ho lo hi;rw[hcn];have e2:List.take ((hi-lo)*sz) (List.drop (off+lo*sz) cs.toList)=List.drop (lo*sz) (List.take (hi*sz)<|List.take (CS l)<|List.drop off cs.toList):=by
  rw[OV,EZ (by omega),MX,Fe]
  congr 1;omega
 rw[e2];exact this
def al0{lo hi:A9 CR}{i:Nat}(hT:GP P T sz=true)(hx:Arg Γ x (GJ l))(hu:G1 sz l)
 (G0:(lo=none/\i=0)\/∃y k,lo=some y/\Arg Γ y (TI k i))(L1:(hi=none/\j=l.length)\/∃y k,hi=some y/\Arg Γ y (TI k j))(KW:i<=j)(Jv:j<=l.length):B0 P Γ ⟨d,.slice T x lo hi none,ty,pos,af,g⟩ (.val<|GJ<|(l.take j).drop i):=
 Dp λw0 _ _ a w H hs=>by
  have hxo:=hx.ok hs;have atD:=hxo;let⟨ad,cap,e,hcap,hxx⟩:=atD;rw[e] at hxo;let⟨el,ii,hue,hii,hsz⟩:=py hT;have IM:∀w,(Go.sizeOf el).run P w= .ok sz w:=λw=>by simp[Go.sizeOf,typeInfo,program,Sem.run,hii,hsz]
  have hbd:(Instr.sliceBounds true l.length cap (lo.map a.eval) (hi.map a.eval) none).run P w= .ok (i,j,cap) w:=by
   have b1:∀(k:IntKind) (code:BoundsCode),(Instr.sliceBound (.int k (j:Int)) cap code).run P w= .ok j w:=λk code=>by
    have:(j:Int)<=cap:=by omega
    simp[Instr.sliceBound,asIntOf];omega
   have b2:∀(k:IntKind) (code:BoundsCode),(Instr.sliceBound (.int k (i:Int)) j code).run P w= .ok i w:=λk code=>by simp[Instr.sliceBound,asIntOf];omega
   rcases G0 with⟨e1,e2⟩|⟨y,k,e1,e2⟩<;>rcases L1 with⟨f1,f2⟩|⟨z,k',f1,f2⟩
   .subst e1;subst f1;subst e2;subst f2;simp[Instr.sliceBounds]
   .subst e1;subst f1;subst e2;have ez:a.eval z= .int k' j:=f2.ok hs;simp[Instr.sliceBounds,ez,b1]
   .subst e1;subst f1;subst f2;have ey:a.eval y= .int k i:=e2.ok hs;simp[Instr.sliceBounds,ey,b2]
   .subst e1;subst f1;have ey:a.eval y= .int k i:=e2.ok hs;have ez:a.eval z= .int k' j:=f2.ok hs;simp[Instr.sliceBounds,ey,ez,b1,b2]
  refine⟨_,?_,aob hu hxo KW Jv (m:=cap) (cap-i) (by omega) (λe=>by omega),rfl⟩;have e3:a.eval x= .slice ad l.length cap:=e;simp[execOp,e3,Instr.sliceAt,Ey hue,Instr.slice,hbd,IM]
end
section
variable[D:DR]
variable{P:Program}{N:Nat}{ops:Array Oper}{Γ Aq:Ctx}{d:Option Tmp}{ty:TypeId}{pos:String}{af:Array Edge}{g:Option (Nat×Bool)}
variable{T:Ap}{α:Type}{x:CR}{f:α->Ty}{l:A3 α}{sz t:Nat}{n:Int}{y:CR}{E T':Ap}{k:IntKind}{m i r:Int}{H:HV}{w0:Ah P}{j p:Nat}{z:α}{bytes:Nat}{v:AV}{off:Nat}{τ:Ty}{ix:CR}{dd:Nat}{T2:Ap}{len:Nat}{a:Act}{w:AR}{F5:BG Ap}{σ:Ty}{b:Bool}{lo hi:A9 CR}{H0:HV}{k':IntKind}{xs:A3 CR}{args Bs:A3 Ty}
def Ik{o:Oper}{s s':AS}(h:B0 P Γ o s)(e:s=s'):B0 P Γ o s':=e▸h
@[reducible] def TS(l:A3 UInt8):Ty:=TM ⟨l.toArray⟩
@[reducible] def lT{α:Type}(f:α->Ty)(l:A3 α):A3 Ty:=l.map f
@[reducible] def TL{α:Type}(f:α->Ty)(l:A3 α):Ty:=GJ<|lT f l
@[reducible] def bM{α:Type}(f:α->Ty)(l:A3 α):Ty:=DH<|lT f l
def TN{α:Type}(f:α->Ty)(l:A3 α):Ty where
 n:=1
 agg:=false
 ok:=λH v=>(TL f l).ok H v/\(l=[]->v= .slice none 0 0)
 mono:=λh k=>⟨(TL f l).mono h k.1,k.2⟩
 shape:=λk=>(TL f l).shape k.1
def AB{α:Type}(l:A3 α):Int->A9 α
 | .ofNat n=>l[n]?| .negSucc _=>none
def C5{α:Type}(l:A3 α)(lo hi:Int):A9 (A3 α):=bif decide (0<=lo)&&(decide (lo<=hi)&&decide (hi<=l.length)) then some ((l.take hi.toNat).drop lo.toNat) else none
def IL(n:Int):Bool:=decide (-9223372036854775808<=n)&&decide (n<=9223372036854775807)
def AG(n:Int):A9 Int:=bif IL n then some n else none
def BN{α:Type}(bytes:Nat)(l m:A3 α):A9 (A3 α):=bif decide ((l.length+m.length)*bytes<=140737488355328)&&decide (l.length+m.length<=9223372036854775807) then some (l++m) else none
def mk_{α:Type}(bytes:Nat)(n:Int)(z:α):A9 (A3 α):=bif decide (0<=n)&&(decide (n<=9223372036854775807)&&decide (bytes*n<=140737488355328)) then some (List.replicate n.toNat z) else none
def IJ(l m:A3 UInt8):A9 (A3 UInt8):=bif decide (l.length+m.length<=9223372036854775807) then some (l++m) else none
def Gv(m n:Int):A9 Int:=bif decide (n=0) then none else AG (m.tdiv n)
def G9(m n:Int):A9 Int:=bif decide (n=0) then none else some (m.tmod n)
def HX{x:α}(h:AB l i=some x):0<=i/\i<l.length/\l[i.toNat]? =some x:=by
 cases i with
 |ofNat n=>have h':l[n]? =some x:=h;have:=(FX.1 h').1;refine⟨Int.natCast_nonneg n,?_,h'⟩;show(n:Int)<_;omega
 |negSucc n=>cases h
theorem yi{r:A3 α}{lo hi:Int}(h:C5 l lo hi=some r):0<=lo/\lo<=hi/\hi<=l.length/\r=(l.take hi.toNat).drop lo.toNat:=by grind [C5]
def ajZ(h:IL n=true):DW n:=by simpa[IL,DW] using h
theorem Z1(h:AG n=some r):DW n/\r=n:=by
 unfold AG at h;cases hc:IL n
 .grind
 .rw[hc] at h;exact⟨ajZ hc,(Ez h).symm⟩
theorem Yo{b:Nat}{m r:A3 α}(h:BN b l m=some r):(l.length+m.length)*b<=140737488355328/\l.length+m.length<=9223372036854775807/\r=l++m:=by grind [BN]
theorem anD{b:Nat}{r:A3 α}(h:mk_ b n z=some r):∃m:Nat,n=m/\m<=9223372036854775807/\b*m<=140737488355328/\r=List.replicate m z:=by
 unfold mk_ at h;cases hc:(decide (0<=n)&&(decide (n<=9223372036854775807)&&decide (b*n<=140737488355328)))
 .grind
 .grind
theorem aiy{l m r:A3 UInt8}(h:IJ l m=some r):l.length+m.length<=9223372036854775807/\r=l++m:=by
 unfold IJ at h;cases hc:decide (l.length+m.length<=9223372036854775807)
 .grind
 .grind
theorem alq(h:Gv m n=some r):n≠0/\DW (m.tdiv n)/\r=m.tdiv n:=by
 unfold Gv at h;cases hc:decide (n=0)
 .rw[hc] at h;let⟨h1,h2⟩:=Z1 h;exact⟨Bh hc,h1,h2⟩
 .grind
theorem akN(h:G9 m n=some r):n≠0/\r=m.tmod n:=by
 unfold G9 at h;cases hc:decide (n=0)
 .grind
 .grind
def eK(l:A3 UInt8):(⟨l.toArray⟩:ByteArray).toList=l:=by
 have key:∀(b:ByteArray) (n:Nat) (i:Nat) (r:A3 UInt8),b.size-i=n->i<=b.size->ByteArray.toList.loop b i r=r.reverse++b.data.toList.drop i:=by
  intro b n
  induction n with
  |zero=>
   intro i r hn hi;unfold ByteArray.toList.loop;have: ¬i<b.size:=by omega
   rw[if_neg this,List.drop_eq_nil_of_le (by simp[Fv];exact Zc this)];simp
  |succ n ih=>
   intro i r hn hi;unfold ByteArray.toList.loop;have hlt:i<b.size:=by omega
   rw[if_pos hlt,ih (i+1) _ (by omega) (by omega)];have hl:i<b.data.toList.length:=by simpa using hlt
   rw[US hl];have:b.get! i=b.data.toList[i]:=by
    cases b with
    |mk a=>show a[i]! =_;rw[K6 a i hlt];simp
   simp[this]
 unfold ByteArray.toList;rw[key _ _ 0 [] rfl<|FV _];simp
def Arg.s{b:ByteArray}{l:A3 UInt8}(h:b=⟨l.toArray⟩):Arg Γ (.const<| .string b) (TS l):=⟨λ_=>by subst h;rfl⟩
def Arg.nn:Arg Γ (.const<| .slice none 0 0) (TN f []):=⟨λhs=>⟨(Arg.aqv (Γ:=Γ)).ok hs,λ_=>rfl⟩⟩
def sR:∀H v,(TN f l).ok H v->(TL f l).ok H v:=λ_ _ h=>h.1
theorem sT(h:l.isEmpty=false):∀H v,(TL f l).ok H v->(TN f l).ok H v:=by simp_all [Ty.ok,TL,TN]
def Nj{m n r:A3 UInt8}(hx:Arg Γ x (TS m))(hy:Arg Γ y (TS n))(h:IJ m n=some r):B0 P Γ ⟨d,.binOp .add T x y T',ty,pos,af,g⟩ (.val<|TS r):=
 IA hx hy λH u v hu hv w _=>by
  cases hu;cases hv;let⟨h1,h2⟩:=aiy h;subst h2;have hsz: ¬(((⟨m.toArray⟩:ByteArray).size+(⟨n.toArray⟩:ByteArray).size:Nat):Int)>IntKind.i64.max:=by
   have e1:(⟨m.toArray⟩:ByteArray).size=m.length:=by simp[ByteArray.size]
   have e2:(⟨n.toArray⟩:ByteArray).size=n.length:=by simp[ByteArray.size]
   rw[e1,e2];have:IntKind.i64.max=9223372036854775807:=rfl;rw[this];omega
  refine⟨.string<|⟨m.toArray⟩++⟨n.toArray⟩,?_,?_⟩
  .simp only[eqGuard,binOp,Op.stringOp,if_neg hsz];rfl
  .show Value.string _=Value.string _
   congr 1
def ND{m n:A3 UInt8}(hx:Arg Γ x (TS m))(hy:Arg Γ y (TS n)):B0 P Γ ⟨d,.binOp .eql T x y T',ty,pos,af,g⟩ (.val<|Ay<|m==n):=by have:=aoz (P:=P) (d:=d) (ty:=ty) (pos:=pos) (af:=af) (g:=g) (T:=T) (T':=T') hx hy;rwa [eK,eK] at this
def abY{m n:A3 UInt8}(hx:Arg Γ x (TS m))(hy:Arg Γ y (TS n)):B0 P Γ ⟨d,.binOp .neq T x y T',ty,pos,af,g⟩ (.val<|Ay<| !(m==n)):=by have:=aou (P:=P) (d:=d) (ty:=ty) (pos:=pos) (af:=af) (g:=g) (T:=T) (T':=T') hx hy;rwa [eK,eK] at this
def EW{s:A3 UInt8}(hT:isStr P T=true)(hx:Arg Γ x (TS s)):B0 P Γ ⟨d,.call ⟨.builtin .len,#[x],#[T]⟩,ty,pos,af,g⟩ (.val<|TI .i64 s.length):=by
 have:=ahr (P:=P) (d:=d) (ty:=ty) (pos:=pos) (af:=af) (g:=g) hT hx;have e:(⟨s.toArray⟩:ByteArray).size=s.length:=by simp[ByteArray.size]
 rwa [e] at this
def N5{s:A3 UInt8}{b:UInt8}(hT:isStr P T=true)(hx:Arg Γ x (TS s))(hy:Arg Γ y (TI k i))(h:AB s i=some b):B0 P Γ ⟨d,.index T x y,ty,pos,af,g⟩ (.val<|TI .u8 b.toNat):=
 Dp λ_ _ _ a w H hs=>by
  have e:a.eval x= .string ⟨s.toArray⟩:=hx.ok hs;have e2:a.eval y= .int k i:=hy.ok hs;let⟨h1,h2,h3⟩:=HX h;have hlt:=(FX.1 h3).1;have h4:(⟨s.toArray⟩:ByteArray)[i.toNat]? =some b:=by
   have atV:i.toNat<(⟨s.toArray⟩:ByteArray).size:=by simpa[ByteArray.size] using hlt
   rw[getElem?_pos (⟨s.toArray⟩:ByteArray) i.toNat atV]
   congr 1
   show s.toArray[i.toNat]'_=b;rw[Gs hlt] at h3;simpa using h3
  exact⟨_,by simp[execOp,e,e2,Instr.index,asIntOf,Ey<|nu hT,h1,h4],rfl,rfl⟩
inductive Lo(Γ:Ctx):A9 CR->Int->Int->Prop where
 |none {n:Int}:Lo Γ none n n|some {y:CR} {k:IntKind} {i n:Int} (h:Arg Γ y (TI k i)):Lo Γ (some y) n i
def ua{cap:Nat}{j:Int}(G0:Lo Γ lo 0 i)(L1:Lo Γ hi len j)(h0:0<=i)(KW:i<=j)(hj:j<=len)(hlc:len<=cap){N:Nat}(hs:Sat w0 H0 N Γ a w H):(Instr.sliceBounds b len cap (lo.map a.eval) (hi.map a.eval) none).run P w= .ok (i.toNat,j.toNat,cap) w:=by
 have b1:∀(k:IntKind) (code:BoundsCode),(Instr.sliceBound (.int k j) cap code).run P w= .ok j.toNat w:=λk code=>by
  have:0<=j/\j<=cap:=by omega
  simp[Instr.sliceBound,asIntOf,this]
 have b2:∀(k:IntKind) (code:BoundsCode),(Instr.sliceBound (.int k i) j.toNat code).run P w= .ok i.toNat w:=λk code=>by
  have h1:i<=(j.toNat:Int):=by omega
  simp only[Instr.sliceBound,asIntOf,E6,K7,Dt,if_pos<|And.intro h0 h1]
 cases G0 with
 |none=>cases L1 with|none=>simp[Instr.sliceBounds]|some hz=>have ez:=hz.ok hs;simp[sU] at ez;simp[Instr.sliceBounds,ez,b1]
 |some hy=>
  have ey:=hy.ok hs;simp[sU] at ey;cases L1 with
  |none=>
   have b2':∀(k:IntKind) (code:BoundsCode),(Instr.sliceBound (.int k i) len code).run P w= .ok i.toNat w:=λk code=>by simpa using b2 k code
   simp[Instr.sliceBounds,ey,b2']
  |some hz=>have ez:=hz.ok hs;simp[sU] at ez;simp[Instr.sliceBounds,ez,ey,b1,b2]
def HU{s r:A3 UInt8}{j:Int}(hT:isStr P T=true)(hx:Arg Γ x (TS s))(G0:Lo Γ lo 0 i)(L1:Lo Γ hi s.length j)(h:C5 s i j=some r):B0 P Γ ⟨d,.slice T x lo hi none,ty,pos,af,g⟩ (.val<|TS r):=
 Dp λ_ _ _ a w H hs=>by
  let⟨h1,h2,h3,h4⟩:=yi h;subst h4;have e:a.eval x= .string ⟨s.toArray⟩:=hx.ok hs;have esz:(⟨s.toArray⟩:ByteArray).size=s.length:=by simp[ByteArray.size]
  have hbd:=ua (P:=P) (b:=false) G0 L1 h1 h2 h3 (BQ _) hs;refine⟨.string<|(⟨s.toArray⟩:ByteArray).extract i.toNat j.toNat,?_,?_,rfl⟩
  .simp[execOp,e,Instr.sliceAt,Ey<|nu hT,Instr.slice,esz,hbd]
  .show Value.string _=Value.string _
   congr 1
   apply ByteArray.ext;rw[ByteArray.data_extract];simp[List.extract_eq_take_drop,MX]
def Lq(hT:E4 P T=true)(hx:Arg Γ x (TL f l)):B0 P Γ ⟨d,.call ⟨.builtin .len,#[x],#[T]⟩,ty,pos,af,g⟩ (.val<|TI .i64 l.length):=by have:=aoy (P:=P) (d:=d) (ty:=ty) (pos:=pos) (af:=af) (g:=g) hT hx;rwa [C2] at this
def MO{s:Nat}(hT:E4 P T=true)(hs:look Γ s=some (.same t))(ht:look Γ t=some (.buf E sz<|lT f l)):B0 P Γ ⟨d,.call ⟨.builtin .len,#[.tmp s],#[T]⟩,ty,pos,af,g⟩ (.val<|TI .i64 l.length):=by have:=ah3 (P:=P) (d:=d) (ty:=ty) (pos:=pos) (af:=af) (g:=g) hT hs ht;rwa [C2] at this
def aa5(hT:E4 P T=true)(ht:look Γ t=some (.buf E sz<|lT f l)):B0 P Γ ⟨d,.call ⟨.builtin .len,#[.tmp t],#[T]⟩,ty,pos,af,g⟩ (.val<|TI .i64 l.length):=
 Dp λ_ _ _ a w H BJ=>by
  let⟨ad,cap,e⟩:=ab5<|BJ.holds _<|BD ht
  have e3:a.eval (.tmp t)= .slice ad (lT f l).length cap:=e;rw[C2] at e3;exact⟨_,by simp[execOp,resolve,invoke,builtin,e3,nh hT],rfl,rfl⟩
def E5{y:α}(hT:GP P T sz=true)(hf:∀z,(f z).n=sz)(hx:Arg Γ x (TL f l))(hi:Arg Γ ix (TI k i))(h:AB l i=some y):B0 P Γ ⟨d,.indexAddr T x ix,ty,pos,af,g⟩ (.val<|Jl<|f y):=by let⟨h1,h2,h3⟩:=HX h;exact ah4 hx hT (K4 hf l) hi h1 (by rw[HL,h3];rfl)
def Cs{s:Nat}{y:α}(hT:GP P T sz=true)(hs:look Γ s=some (.same t))(ht:look Γ t=some (.buf E sz<|lT f l))(hi:Arg Γ ix (TI k i))(h:AB l i=some y):B0 P Γ ⟨d,.indexAddr T (.tmp s) ix,ty,pos,af,g⟩ (.KH t i.toNat sz):=by let⟨h1,h2,h3⟩:=HX h;exact afw hs ht hT hi h1 (by rw[C2];exact h2)
def F8{y:α}(hf:∀z,(f z).n=sz)(hp:look Γ p=some (.KH t j sz))(ht:look Γ t=some (.buf E sz<|lT f l))(h:l[j]? =some y)(hT:Bv P T (f y).n (f y).agg=true):B0 P Γ ⟨d,.load T<| .tmp p,ty,pos,af,g⟩ (.val<|f y):=afv hp ht (K4 hf l) (by rw[HL,h];rfl) hT
def JZ{y:α}(hf:∀z,(f z).n=sz)(hp:look Γ p=some (.KH t j sz))(ht:look Γ t=some (.buf E sz<|lT f l))(h:l[j]? =some z)(hx:Arg Γ x (f y))(hT:Bv P T (f y).n (f y).agg=true):Step P N ops ⟨none,.store T (.tmp p) x,ty,pos,af,none⟩ Γ ((t,.buf E sz<|lT f<|l.set j y)::BL t Γ):=by have:=afT (P:=P) (N:=N) (ops:=ops) (ty:=ty) (pos:=pos) (af:=af) hp ht (K4 hf l) (by rw[HL,h];rfl) hx (hf y) hT;rwa [show(lT f l).set j (f y)=lT f (l.set j y) from by simp[lT,UE]] at this
def pn{y:α}(hf:∀z,(f z).n=sz)(hp:look Γ p=some (.KH t j sz))(ht:look Γ t=some (.buf E sz<|lT f l))(h:l[j]? =some z)(hx:Arg Γ x (f y))(hT:Bv P T (f y).n (f y).agg=true):P3 P N ops Γ ⟨none,.store T (.tmp p) x,ty,pos,af,none⟩ t (.buf E sz<|lT f<|l.set j y):=by have:=aew (P:=P) (N:=N) (ops:=ops) (ty:=ty) (pos:=pos) (af:=af) hp ht (K4 hf l) (by rw[HL,h];rfl) hx (hf y) hT;rwa [show(lT f l).set j (f y)=lT f (l.set j y) from by simp[lT,UE]] at this
def Uk:maxLen=9223372036854775807:=rfl
def EE{m r:A3 α}{s:Nat}(Gm:E4 P T2=true)(hT:GO P T E sz bytes=true)(hf:∀z,(f z).n=sz)(hs:look Γ s=some (.same t))(ht:look Γ t=some (.buf E sz<|lT f l))(hx:Arg Γ x (TL f m))(h:BN bytes l m=some r)(DN:dd<N):Step P N ops ⟨some dd,.call ⟨.builtin .append,#[.tmp s,x],#[T,T2]⟩,ty,pos,af,none⟩ Γ ((dd,.buf E sz<|lT f r)::del dd (BL t Γ)):=by let⟨h1,h2,h3⟩:=Yo h;subst h3;have:=aio (P:=P) (Gm:=Gm) (N:=N) (ops:=ops) (ty:=ty) (pos:=pos) (af:=af) hs ht hx hT (K4 hf m) (by rw[C2,C2,Uk];exact h2) (by rw[C2,C2];exact h1) DN;rwa [show lT f l++lT f m=lT f (l++m) from by simp[lT]] at this
def Qc{m r:A3 α}(Gm:E4 P T2=true)(hT:GO P T E sz bytes=true)(hf:∀z,(f z).n=sz)(ht:look Γ t=some (.buf E sz<|lT f l))(hx:Arg Γ x (TL f m))(h:BN bytes l m=some r)(DN:dd<N):Step P N ops ⟨some dd,.call ⟨.builtin .append,#[.tmp t,x],#[T,T2]⟩,ty,pos,af,none⟩ Γ ((dd,.buf E sz<|lT f r)::del dd (BL t Γ)):=by let⟨h1,h2,h3⟩:=Yo h;subst h3;have:=ahW (P:=P) (Gm:=Gm) (N:=N) (ops:=ops) (ty:=ty) (pos:=pos) (af:=af) ht hx hT (K4 hf m) (by rw[C2,C2,Uk];exact h2) (by rw[C2,C2];exact h1) DN;rwa [show lT f l++lT f m=lT f (l++m) from by simp[lT]] at this
def U5{m r:A3 α}{s:Nat}(Gm:E4 P T2=true)(hT:GO P T E sz bytes=true)(hf:∀z,(f z).n=sz)(hs:look Γ s=some (.same t))(ht:look Γ t=some (.buf E sz<|lT f l))(hx:Arg Γ x (TL f m))(h:BN bytes l m=some r)(DN:dd<N):QA P N ops Γ ⟨some dd,.call ⟨.builtin .append,#[.tmp s,x],#[T,T2]⟩,ty,pos,af,none⟩ t dd (.buf E sz<|lT f r):=by let⟨h1,h2,h3⟩:=Yo h;subst h3;have:=ajf (P:=P) (Gm:=Gm) (N:=N) (ops:=ops) (ty:=ty) (pos:=pos) (af:=af) hs ht hx hT (K4 hf m) (by rw[C2,C2,Uk];exact h2) (by rw[C2,C2];exact h1) DN;rwa [show lT f l++lT f m=lT f (l++m) from by simp[lT]] at this
def ao2{m r:A3 α}{s:Nat}{hv:v.oneCell'=true}(Gm:E4 P T2=true)(hT:GO P T E sz bytes=true)(hf:∀z,(f z).n=sz)(hs:look Γ s=some (.val<|TEq v hv))(ht:look Γ t=some (.O5 v E sz<|lT f l))(hx:Arg Γ x (TL f m))(h:BN bytes l m=some r)(DN:dd<N):QA P N ops Γ ⟨some dd,.call ⟨.builtin .append,#[.tmp s,x],#[T,T2]⟩,ty,pos,af,none⟩ t dd (.buf E sz<|lT f r):=λEP BI=>by let⟨h1,h2,h3⟩:=Yo h;subst h3;have:=ahV (P:=P) (Gm:=Gm) (N:=N) (ops:=ops) (ty:=ty) (pos:=pos) (af:=af) BI hs ht hx hT (K4 hf m) (by rw[C2,C2,Uk];exact h2) (by rw[C2,C2];exact h1) DN;rwa [show lT f l++lT f m=lT f (l++m) from by simp[lT]] at this
def LI{m r:A3 α}(Gm:E4 P T2=true)(hT:GO P T E sz bytes=true)(hf:∀z,(f z).n=sz)(ht:look Γ t=some (.buf E sz<|lT f l))(hx:Arg Γ x (TL f m))(h:BN bytes l m=some r)(DN:dd<N):QA P N ops Γ ⟨some dd,.call ⟨.builtin .append,#[.tmp t,x],#[T,T2]⟩,ty,pos,af,none⟩ t dd (.buf E sz<|lT f r):=by let⟨h1,h2,h3⟩:=Yo h;subst h3;have:=ahz (P:=P) (Gm:=Gm) (N:=N) (ops:=ops) (ty:=ty) (pos:=pos) (af:=af) ht hx hT (K4 hf m) (by rw[C2,C2,Uk];exact h2) (by rw[C2,C2];exact h1) DN;rwa [show lT f l++lT f m=lT f (l++m) from by simp[lT]] at this
def CZ(f:α->Ty)(E:Ap)(sz:Nat):B0 P Γ ⟨d,.assign<| .const<| .slice none 0 0,ty,pos,af,g⟩ (.buf E sz<|lT f []):=ajO
def Cf(ht:look Γ t=some (.buf E sz<|lT f l)):IH w0 N Γ ((t,.val<|TL f l)::BL t Γ):=an0 ht
def Px(f:α->Ty){r:A3 α}(hT:mkB P T E sz bytes=true)(hz:Du P E (f z))(hsz:(f z).n=sz)(hx:Arg Γ x (TI .i64 n))(hy:Arg Γ y (TI .i64 n))(h:mk_ bytes n z=some r):B0 P Γ ⟨d,.makeSlice T x y,ty,pos,af,g⟩ (.buf E sz<|lT f r):=by let⟨m,h1,h2,h3,h4⟩:=anD h;subst h1;subst h4;have:=an7 (P:=P) (d:=d) (ty:=ty) (pos:=pos) (af:=af) (g:=g) hT hz hsz hx hy h2 h3;rwa [show List.replicate m (f z)=lT f (List.replicate m z) from by simp[lT]] at this
def Lk{r:A3 α}{j:Int}(hT:GP P T sz=true)(hf:∀z,(f z).n=sz)(hx:Arg Γ x (TL f l))(G0:Lo Γ lo 0 i)(L1:Lo Γ hi l.length j)(h:C5 l i j=some r):B0 P Γ ⟨d,.slice T x lo hi none,ty,pos,af,g⟩ (.val<|TL f r):=by
 let⟨h1,h2,h3,h4⟩:=yi h;subst h4;have hi':((i.toNat:Nat):Int)=i:=by omega
 have hj':((j.toNat:Nat):Int)=j:=by omega
 have:=al0 (P:=P) (d:=d) (ty:=ty) (pos:=pos) (af:=af) (g:=g) (lo:=lo) (hi:=hi) (i:=i.toNat) (j:=j.toNat) hT hx (K4 hf l)
  (by cases G0 with|none=>exact .inl ⟨rfl,rfl⟩|some hy=>exact .inr ⟨_,_,rfl,by rw[hi'];exact hy⟩)
  (by cases L1 with|none=>exact .inl ⟨rfl,by rw[C2];omega⟩|some hy=>exact .inr ⟨_,_,rfl,by rw[hj'];exact hy⟩)
  (by omega) (by rw[C2];omega)
 rwa [show((lT f l).take j.toNat).drop i.toNat=lT f ((l.take j.toNat).drop i.toNat) from by simp[lT,qe,List.map_drop]] at this
def y6(h:E4 P T=true)(ad:A9 Addr)(n c:Nat)(w:AR):(Op.equal T (.slice ad n c)<| .slice none 0 0).run P w= .ok ad.isNone w:=by
 let⟨e,hu⟩:=fP h;have key:∀d,(Op.equalIn (d+1) T (.slice ad n c)<| .slice none 0 0).run P w= .ok ad.isNone w:=by intro d;unfold Op.equalIn;cases ad<;>simp[Ey hu]
 exact key 9999
def ac2(h:(TN f l).ok H v):∃ad n c,v= .slice ad n c/\ad.isNone=l.isEmpty:=by
 let⟨⟨ad,cap,e,_,hx⟩,hn⟩:=h;cases l with
 |nil=>exact⟨none,0,0,hn rfl,rfl⟩
 |cons y l=>let⟨b,off,cs,E,fr,e1,_⟩:=hx (by simp[lT]);exact⟨ad,_,cap,e,by subst e1;rfl⟩
def Md(hT:E4 P T=true)(hx:Arg Γ x (TN f l)):B0 P Γ ⟨d,.binOp .eql T x (.const<| .slice none 0 0) T',ty,pos,af,g⟩ (.val<|Ay l.isEmpty):=
 Dp λ_ _ _ a w H hs=>by
  let⟨ad,n,c,e,h⟩:=ac2<|hx.ok hs
  refine⟨.bool ad.isNone,?_,by rw[h];rfl,rfl⟩;have e2:a.eval (.const<| .slice none 0 0)= .slice none 0 0:=rfl;simp[execOp,e,e2,eqGuard,binOp,y6 hT]
def aov(hT:E4 P T=true)(hx:Arg Γ x (TN f l)):B0 P Γ ⟨d,.binOp .neq T x (.const<| .slice none 0 0) T',ty,pos,af,g⟩ (.val<|Ay<| !l.isEmpty):=
 Dp λ_ _ _ a w H hs=>by
  let⟨ad,n,c,e,h⟩:=ac2<|hx.ok hs
  refine⟨.bool<| !ad.isNone,?_,by rw[h];rfl,rfl⟩;have e2:a.eval (.const<| .slice none 0 0)= .slice none 0 0:=rfl;simp[execOp,e,e2,eqGuard,binOp,y6 hT]
def Cu(hx:Arg Γ x (TI .i64 m))(hy:Arg Γ y (TI .i64 n))(h:AG (m+n)=some r):B0 P Γ ⟨d,.binOp .add T x y T',ty,pos,af,g⟩ (.val<|TI .i64 r):=by let⟨h1,h2⟩:=Z1 h;subst h2;exact an9 hx hy h1
def CY(hx:Arg Γ x (TI .i64 m))(hy:Arg Γ y (TI .i64 n))(h:AG (m-n)=some r):B0 P Γ ⟨d,.binOp .sub T x y T',ty,pos,af,g⟩ (.val<|TI .i64 r):=by let⟨h1,h2⟩:=Z1 h;subst h2;exact an3 hx hy h1
def Lp(hx:Arg Γ x (TI .i64 m))(hy:Arg Γ y (TI .i64 n))(h:AG (m*n)=some r):B0 P Γ ⟨d,.binOp .mul T x y T',ty,pos,af,g⟩ (.val<|TI .i64 r):=by let⟨h1,h2⟩:=Z1 h;subst h2;exact an6 hx hy h1
def qH(hx:Arg Γ x (TI .i64 n))(h:AG (-n)=some r):B0 P Γ ⟨d,.unOp .neg T x,ty,pos,af,g⟩ (.val<|TI .i64 r):=by let⟨h1,h2⟩:=Z1 h;subst h2;exact an5 hx h1
def Ni(hx:Arg Γ x (TI .i64 m))(hy:Arg Γ y (TI .i64 n))(h:Gv m n=some r):B0 P Γ ⟨d,.binOp .quo T x y T',ty,pos,af,g⟩ (.val<|TI .i64 r):=by let⟨h1,h2,h3⟩:=alq h;subst h3;exact an4 hx hy h1 h2
def LG(hx:Arg Γ x (TI k m))(hy:Arg Γ y (TI k n))(h:G9 m n=some r):B0 P Γ ⟨d,.binOp .rem T x y T',ty,pos,af,g⟩ (.val<|TI k r):=by let⟨h1,h2⟩:=akN h;subst h2;exact aot hx hy h1
@[reducible] def wr(k:IntKind)(n:Int):Int:=k.wrap n
def V4(k:IntKind)(m n:Int):A9 Int:=bif decide (n=0) then none else some (wr k<|m.tdiv n)
theorem qG(hx:Arg Γ x (TI k m))(hy:Arg Γ y (TI k n))(h:V4 k m n=some r):B0 P Γ ⟨d,.binOp .quo T x y T',ty,pos,af,g⟩ (.val<|TI k r):=by
 unfold V4 at h;cases hc:decide (n=0)
 .rw[hc] at h;have:=(Ez h);subst this;exact abW hx hy<|Bh hc
 .grind
def Ge(op:BinOp)(k:IntKind)(x y:Int):Int:=
 let a:=BitVec.ofInt k.bits x
 let b:=BitVec.ofInt k.bits y
 match op with| .and=>k.wrap (a&&&b).toNat| .or=>k.wrap (a|||b).toNat| .xor=>k.wrap (a^^^b).toNat| .andNot=>k.wrap (a&&& ~~~b).toNat|_=>0
def qK(hx:Arg Γ x (TI k m))(hy:Arg Γ y (TI k n)):B0 P Γ ⟨d,.binOp .and T x y T',ty,pos,af,g⟩ (.val<|TI k<|Ge .and k m n):=
 IA hx hy λH u v hu hv w _=>by cases hu;cases hv;exact⟨_,by simp[eqGuard,binOp,Op.intBits];rfl,rfl⟩
def rC(hx:Arg Γ x (TI k m))(hy:Arg Γ y (TI k n)):B0 P Γ ⟨d,.binOp .or T x y T',ty,pos,af,g⟩ (.val<|TI k<|Ge .or k m n):=
 IA hx hy λH u v hu hv w _=>by cases hu;cases hv;exact⟨_,by simp[eqGuard,binOp,Op.intBits];rfl,rfl⟩
def Mo(k:IntKind)(x y:Int):A9 Int:=bif decide (y<0) then none else some (k.wrap<|x*2^(min y.toNat k.bits))
def Mn(k:IntKind)(x y:Int):A9 Int:=bif decide (y<0) then none else some (x.fdiv<|2^(min y.toNat k.bits))
theorem aH(hx:Arg Γ x (TI k m))(hy:Arg Γ y (TI k' n))(h:Mo k m n=some r):B0 P Γ ⟨d,.binOp .shl T x y T',ty,pos,af,g⟩ (.val<|TI k r):=
 IA hx hy λH u v hu hv w _=>by
  cases hu;cases hv;unfold Mo at h;cases hc:decide (n<0)
  .rw[hc] at h;have:=Ez h;subst this;exact⟨_,by simp only[eqGuard,binOp,Op.shift,if_neg<|Bh hc];rfl,rfl⟩
  .grind
theorem Ud(hx:Arg Γ x (TI k m))(hy:Arg Γ y (TI k' n))(h:Mn k m n=some r):B0 P Γ ⟨d,.binOp .shr T x y T',ty,pos,af,g⟩ (.val<|TI k r):=
 IA hx hy λH u v hu hv w _=>by
  cases hu;cases hv;unfold Mn at h;cases hc:decide (n<0)
  .rw[hc] at h;have:=Ez h;subst this;exact⟨_,by simp only[eqGuard,binOp,Op.shift,if_neg<|Bh hc];rfl,rfl⟩
  .grind
def atA:IntKind->IntKind->Bool:=λa b=>decide<|a=b
def TF(P:CP)(T:Ap)(k:IntKind):Bool:=match P.underlying T with|some (.int k')=>atA k k'|_=>false
def yS(h:TF P T k=true):P.underlying T=some (.int k):=by
 unfold TF at h;split at h
 .rename_i k' hu;rw[hu,As h]
 .cases h
def SE{S:Ap}(hS:TF P S k=true)(hT:TF P T k'=true)(hx:Arg Γ x (TI k n)):B0 P Γ ⟨d,.convert S T x,ty,pos,af,g⟩ (.val<|TI k'<|wr k' n):=
 Dp λ_ _ _ a w H hs=>by have e:a.eval x= .int k n:=hx.ok hs;exact⟨_,by simp[execOp,e,convert,Ey<|yS hS,Ey<|yS hT,Conv.intToInt],rfl,rfl⟩
def qJ{m n:Bool}(hT:X6 P T=true)(hx:Arg Γ x (Ay m))(hy:Arg Γ y (Ay n)):B0 P Γ ⟨d,.binOp .eql T x y T',ty,pos,af,g⟩ (.val<|Ay<|m==n):=ap0 hT hx hy
def qI{m n:Bool}(hT:X6 P T=true)(hx:Arg Γ x (Ay m))(hy:Arg Γ y (Ay n)):B0 P Γ ⟨d,.binOp .neq T x y T',ty,pos,af,g⟩ (.val<|Ay<| !(m==n)):=
 IA hx hy λH u v hu hv w _=>by
  cases hu;cases hv;have hu:P.underlying T=some .bool:=by
   unfold X6 at hT;split at hT
   .assumption
   .cases hT
  refine⟨.bool<| !(m==n),?_,rfl⟩;have e:(Op.equal T (.bool m)<| .bool n).run P w= .ok (m==n) w:=run_equalIn_bool w 9999 T m n hu;simp[eqGuard,binOp,e]
def mx_(x y:Int):Int:=bif decide (x<y) then y else x
def mn_(x y:Int):Int:=bif decide (y<x) then y else x
theorem gn(hx:Arg Γ x (TI k m))(hy:Arg Γ y (TI k n)):B0 P Γ ⟨d,.call ⟨.builtin .max,#[x,y],F5⟩,ty,pos,af,g⟩ (.val<|TI k<|mx_ m n):=
 Dp λ_ _ _ a w H hs=>by
  have e:a.eval x= .int k m:=hx.ok hs;have e2:a.eval y= .int k n:=hy.ok hs;refine⟨.int k<|if n>m then n else m,?_,?_,rfl⟩
  .simp[execOp,resolve,invoke,builtin,e,e2,Builtin.max_,Builtin.max2]
  .show Value.int k _=Value.int k _;unfold mx_;cases hc:decide (m<n)
   .grind
   .grind
theorem aa4(hx:Arg Γ x (TI k m))(hy:Arg Γ y (TI k n)):B0 P Γ ⟨d,.call ⟨.builtin .min,#[x,y],F5⟩,ty,pos,af,g⟩ (.val<|TI k<|mn_ m n):=
 Dp λ_ _ _ a w H hs=>by
  have e:a.eval x= .int k m:=hx.ok hs;have e2:a.eval y= .int k n:=hy.ok hs;refine⟨.int k<|if n<m then n else m,?_,?_,rfl⟩
  .simp[execOp,resolve,invoke,builtin,e,e2,Builtin.min_,Builtin.min2]
  .show Value.int k _=Value.int k _;unfold mn_;cases hc:decide (n<m)
   .grind
   .grind
structure qp(P:CP)(f:FuncId)(args:A3 Ty)(Bs:A3 Ty):Prop where
 run:∀(w:AR) (H:HV) (vs:A3 AV),Ee H args vs->∃v w',(callFunc f vs.toArray).run P w= .ok (.value v) w'/\Fc w.heap.size w w'/\LZ H Bs v
def Pq{f:FuncId}(hf:qp P f args Bs)(ha:AP Γ xs args):B0 P Γ ⟨d,.call ⟨.value<| .func f,xs.toArray,F5⟩,ty,pos,af,g⟩ (Im Bs):=
 MM λw0 H0 N a w H hs=>by
  let⟨v,w',h1,h2,h3⟩:=hf.run w H _<|ha.ok hs
  have e:execOp a.eval ⟨d,.call ⟨.value<| .func f,xs.toArray,F5⟩,ty,pos,af,g⟩=callFunc f (#[]++xs.toArray.map a.eval++ #[]):=rfl;have e2:(#[]++xs.toArray.map a.eval++ #[])=(xs.map a.eval).toArray:=by simp
  refine⟨v,w',H,by rw[e,e2,h1],⟨h2,HV.le.refl _,λ_ _=>rfl,λr o h=>?_⟩,Vh h3,λb e=>absurd e<|AS.free_spec Vq⟩;rw[h2.block r<|HN hs.sub h];exact hs.sub r o h
def pA{n:Nat}{agg:Bool}(h:Bv P T n agg=true){cs:BG AV}(hl:off+n<=cs.size)(w:AR):(part T cs off).run P w= .ok (H6 agg ((cs.toList.drop off).take n).toArray) w:=by
 let⟨h1,h2,h3⟩:=za h;cases agg
 .have hn:=h3 rfl;subst hn;have hlt:off<cs.size:=by omega
  simp[part,h1,hlt,H6]
 .simp[part,E6,h1,h2,Dt,if_true,K7,H6]
  congr 2
  apply Array.ext';simp[Array.toList_extract,List.extract_eq_take_drop]
def rU(P:CP)(T F:Ap)(k off:Nat):Bool:=
 match P.underlying T with
 |some (.struct fs)=>match fs[k]? with|some f=>Nat.beq f.offset off&&Nat.beq f.type F|none=>false
 |_=>false
def afy{F:Ap}{k:Nat}(hT:rU P T F k off=true)(hF:Bv P F σ.n σ.agg=true)(ha:τ.agg=true)(hx:Arg Γ x τ)(hp:BZ τ off σ):B0 P Γ ⟨d,.field T x k,ty,pos,af,g⟩ (.val σ):=
 Dp λ_ _ _ a w H hs=>by
  have hv:=hx.ok hs;let⟨p1,p2⟩:=hp _ _ hv;have CW:=τ.shape hv;have e:a.eval x= .agg (a.eval x).cells:=by rw[<-show H6 τ.agg (a.eval x).cells= .agg (a.eval x).cells from by rw[ha];rfl];exact CW.eq
  unfold rU at hT;split at hT
  .rename_i fs hu;split at hT
   .rename_i fd hfd;simp only[C9] at hT;have e1:=EF hT.1;have e2:=EF hT.2;refine⟨_,?_,p2,rfl⟩
    generalize (a.eval x).cells=cs at e p1
    have hr:=pA (P:=P) hF p1 w;simp[execOp,e,Instr.field,E6,Ey hu,Dt,hfd,asAgg,K7,e1,e2,hr]
   .cases hT
  .cases hT
def jx(P:CP)(T E:Ap)(len sz:Nat):Bool:=
 match P.underlying T with
 |some (.array n e)=>Nat.beq n len&&Nat.beq e E&&(match P.info? e with|some i=>Nat.beq i.size sz|none=>false)
 |_=>false
def BZ.arr{i:Nat}{y:α}(hf:∀z,(f z).n=sz)(h:l[i]? =some y):BZ (bM f l) (i*sz) (f y):=by refine BZ.agg (i:=i) (by rw[HL,h];rfl) ?_;have hlt:=(FX.1 h).1;rw[Ka<|(K4 hf l).take i,EK,C2,EZ (by omega)]
def HC.arr{i:Nat}{y:α}(hf:∀z,(f z).n=sz)(h:l[i]? =some z):HC (bM f l) (i*sz) (f y) (bM f<|l.set i y):=by have hlt:=(FX.1 h).1;have:=HC.agg (l:=lT f l) (i:=i) (off:=i*sz) (σ:=f y) (ρ:=f z) (by rw[HL,h];rfl) (by rw[hf,hf]) (by rw[Ka<|(K4 hf l).take i,EK,C2,EZ (by omega)]);rwa [show(lT f l).set i (f y)=lT f (l.set i y) from by simp[lT,UE]] at this
def ZJ{y:α}(hT:jx P T E len sz=true)(hE:Bv P E (f y).n (f y).agg=true)(hf:∀z,(f z).n=sz)(hlen:l.length=len)(hx:Arg Γ x (bM f l))(hi:Arg Γ ix (TI k i))(h:AB l i=some y):B0 P Γ ⟨d,.index T x ix,ty,pos,af,g⟩ (.val<|f y):=
 Dp λ_ _ _ a w H hs=>by
  let⟨h0,h1,h2⟩:=HX h;have hv:=hx.ok hs;let⟨p1,p2⟩:=BZ.arr hf h2 _ _ hv;let⟨cs,e,_⟩:=hv;have ei:a.eval ix= .int k i:=hi.ok hs;rw[e] at p1 p2;simp[Value.cells] at p1 p2;unfold jx at hT;split at hT
  .rename_i n el hu;simp only[C9] at hT;let⟨⟨e1,e2⟩,e3⟩:=hT;have e1:=EF e1;have e2:=EF e2;subst e2;split at e3
   .rename_i ii hii;have e3:=EF e3;have hr:=pA (P:=P) hE p1 w;have hsz:(Go.sizeOf el).run P w= .ok sz w:=by simp[Go.sizeOf,typeInfo,program,Sem.run,hii,e3]
    have hb:0<=i/\i<(n:Int):=⟨h0,by omega⟩;refine⟨_,?_,p2,rfl⟩;simp[execOp,e,ei,Instr.index,asIntOf,E6,K7,Dt,Ey hu,if_pos hb,hsz,hr]
   .cases e3
  .cases hT
def Pp{y:α}(h:look Γ t=some (.own T'<|bM f l))(hT:Lf P T len sz=true)(hlen:l.length=len)(hi:Arg Γ ix (TI k i))(hy:AB l i=some y):B0 P Γ ⟨d,.indexAddr T (.tmp t) ix,ty,pos,af,g⟩ (.ptr t<|i.toNat*sz):=by let⟨h0,h1,_⟩:=HX hy;exact w6 h hT hi h0 (by omega)
def akW{ps:A3 (Nat×CR)}{l l':A3 Ty}(hp:E8 P Γ ps l l'):Fa l'=Fa l:=by induction hp with|nil=>rfl|cons hx hi hn r ih=>rw[ih,zL hi hn]
theorem xg{n:Nat}{ps:A3 (Nat×CR)}{l':A3 Ty}(hz:Du P E τ)(hT:HE P T E sz=true)(hsz:τ.n=sz)(hpos:Nat.blt 0 (n*sz)=true)(hn:Nat.ble (n*sz) 16777216=true)(hp:E8 P Γ ps (List.replicate n τ) l')(hl:l'.length=n):B0 P Γ ⟨d,.buildSlice T n ps.toArray,ty,pos,af,g⟩ (.buf E sz l'):=
 MM λw0 H0 N a w H hs=>by
  let⟨z,hzr,hzo⟩:=hz.run w;have arI:=Ad hpos;unfold HE at hT;split at hT
  .rename_i e hu;simp only[C9] at hT;let⟨h1,h2⟩:=hT;have h1:=EF h1;subst h1;split at h2
   .rename_i i hi;have h2:=EF h2;have hz0:=oi (hzo H) n;rw[hsz] at hz0;have Js:∀i m,(Fa<|List.replicate n τ)[i]? =some m->(λi=>some (i*sz,sz)) i=some (((Fa<|List.replicate n τ).take i).sum,m):=by
     intro i m hi;simp only[Fa,iW,List.getElem?_replicate] at hi;split at hi
     .rename_i hlt;simp at hi;subst hi;simp[Fa,iW,Zk,hsz,EZ<|WH hlt]
     .cases hi
    let⟨HM,hf,Az⟩:=hp.fill Js hs hz0;have e2:(ps.toArray.map λ(i,x)=>(i,a.eval x)).toList=ps.map λp=>(p.1,a.eval p.2):=by simp
    have IM:(Go.sizeOf e).run P w= .ok sz w:=by simp[Go.sizeOf,typeInfo,program,Sem.run,hi,h2]
    have hle:n*sz<=16777216:=Dx hn;have hff:Instr.fill (λi=>some (i*sz,sz)) ((Array.range<|n*sz).map<|λi=>z.cells[i%z.cells.size]!) (ps.toArray.map λ(i,x)=>(i,a.eval x)).toList=some HM:=by grind
    have hb:Fc w.heap.size w (w.alloc<| .cells HM e):=Fc.alloc _;have awB:=N6 Az;have hns:Fa l'=Fa (List.replicate n τ):=akW hp;have hcl:CS l'=n*sz:=by have:CS l'=(Fa l').sum:=rfl;rw[this,hns];simp[Fa,hsz]
    have hcs:HM.size=n*sz:=by grind
    refine⟨.slice (some ⟨w.heap.size,0,none⟩) n n,w.alloc<| .cells HM e,H,?_,Ext.alloc hs.sub _,⟨HM.toList,⟨by rw[hl];simpa using hcs,.inr ⟨w.heap.size,n,HM,by rw[hl],FV _,Lx w _,by omega,?_,hcs,?_⟩⟩,Az,?_⟩,?_⟩
    .have h0: ¬n*sz=0:=by omega
     simp only[execOp,Instr.buildSlice,E6,Dt,Ey hu,IM];rw[if_neg (by omega)];simp only[E6,K7,Dt,if_neg h0,hzr];rw[hff];simp[newRow]
    .rw[Uk];have:n<=n*sz:=by
      rcases M1 sz with h|h
      .grind
      .exact Nat.le_mul_of_pos_right n h
     omega
    .grind
    .intro b hb;simp[Value.ownBlock] at hb;subst hb;refine⟨?_,.inl hs.below.size⟩;cases hh:H w.heap.size with|none=>rfl|some o=>have:=HN hs.sub hh;omega
    .intro b hb;simp[AS.owns,Value.ownBlock] at hb;omega
   .cases h2
  .cases hT
theorem not_true(h:(!b)=true):b=false:=by cases b<;>simp_all
def CN{y:α}(h:AB l i=some y):l[i.toNat]? =some y:=(HX h).2.2
def aQ{y:α}{n:Nat}(e:l.length=n)(h:AB l i=some y):i<n:=by have:=(HX h).2.1;omega
theorem uc{l:A3 Ty}(h:τ.n=sz)(r:G1 sz l):G1 sz (τ::l):=by simp_all [Ty.n,G1]
def un:G1 sz []:=λx hx=>by cases hx
def Sat.abU(hs:Sat w0 H0 N Γ a w H){s:AS}(h:s.holds w0 a w H (Ae a t))(hb:s.free=true):Sat w0 H0 N ((t,s)::BL t Γ) a w H:=by
 refine⟨hs.nd,hs.sz,hs.below,hs.Fj,hs.sub,?_,?_,hs.gl⟩
 .intro p hp;rcases Am.1 hp with e|hp
  .subst e;exact h
  .exact hs.holds p (DO p hp).1
 .intro p hp q hq hne b hpb;rcases Am.1 hp with e|hp
  .subst e;exact absurd hpb<|AS.free_spec hb
  .rcases Am.1 hq with e|hq
   .subst e;exact AS.free_spec hb
   .exact hs.sep p (DO p hp).1 q (DO q hq).1 hne b hpb
def Eu{s:Nat}(hs:look Γ s=some (.same t))(ht:look Γ t=some (.val τ)):IH w0 N Γ ((s,.val τ)::BL s Γ):=λ_ _ _ H h=>by
 have e:=h.holds _<|BD hs
 have k:=h.holds _<|BD ht
 exact⟨H,h.abU (by show τ.ok H _;rw[show _=_ from e];exact k) rfl⟩
def adA{Gx:Ty}(ht:look Γ t=some (.val τ))(hi:∀H v,τ.ok H v->Gx.ok H v):IH w0 N Γ ((t,.val Gx)::BL t Γ):=λ_ _ _ H h=>⟨H,h.abU (hi _ _<|h.holds _<|BD ht) rfl⟩
def H5(ht:look Γ t=some (.val<|TN f l)):IH w0 N Γ ((t,.val<|TL f l)::BL t Γ):=adA ht sR
def tNL(h:l.isEmpty=false)(ht:look Γ t=some (.val<|TL f l)):IH w0 N Γ ((t,.val<|TN f l)::BL t Γ):=adA ht<|sT h
def Arg.c(h:v.oneCell'=true):Arg Γ (.const v) (Ip 1 false):=⟨λ_=>Shape.one h⟩
def zTL:(TL f []).ok H (.slice none 0 0):=⟨none,0,rfl,BQ _,λh=>absurd rfl h⟩
def zTN:(TN f []).ok H (.slice none 0 0):=⟨zTL,λ_=>rfl⟩
def Ko{n:Nat}{agg:Bool}(h:(Nat.beq v.cells.size n&&v.cells.toList.all (λc=>c.oneCell'))=true)(e:v=H6 agg v.cells):Shape n agg v:=by simp only[C9] at h;exact⟨EF h.1,λc hc=>Dr.1 h.2 c hc,e⟩
def El{α:Type}(i k:Int)(y x:α):α:=bif decide (i=k) then y else x
def HC.bG{a b c y:α}(hf:∀z,(f z).n=sz)(h:AB [a,b,c] i=some z):HC (DH [f a,f b,f c]) (i.toNat*sz) (f y) (DH [f<|El i 0 y a,f<|El i 1 y b,f<|El i 2 y c]):=by
 let⟨h0,h1,h2⟩:=HX h;have:=HC.arr (y:=y) hf h2;simp only[E2,UH] at h1;have hi:i=0\/i=1\/i=2:=by omega
 rcases hi with e|e|e<;>(subst e;exact this)
def aJ{t' o n:Nat}(h:look Γ t=some (.ptr t' o))(hT:Lf P T n sz=true)(hi:Arg Γ ix (TI k i))(h0:0<=i)(h1:i<n):B0 P Γ ⟨d,.indexAddr T (.tmp t) ix,ty,pos,af,g⟩ (.ptr t'<|o+i.toNat*sz):=PD h hT hi h0 h1
def Yt{f:FuncId}(hc:Gq P f=true)
 (h:∀(H:HV) (vs:A3 AV),Ee H args vs->∃sN NK,Ee H sN vs/\Eg P f sN (.vs NK)/\∀H' v,LZ H' NK v->LZ H' Bs v):Eg P f args (.vs Bs):=
 ⟨hc,λw H vs sub gl Az=>by let⟨sN,NK,h1,h2,h3⟩:=h H vs Az;exact(h2.run w H vs sub gl h1).mono λ_ w' ⟨v,e,hb,H',k1,k2,k3⟩=>⟨v,e,hb,H',k1,k2,h3 H' v k3⟩⟩
structure Ui{α:Type}[DecidableEq α](P:CP)(T:Ap)(f:α->Ty):Prop where
 run:∀(H:HV) (u v:AV) (x y:α),(f x).ok H u->(f y).ok H v->∀w:AR,(Op.equal T u v).run P w= .ok (decide<|x=y) w
 guard:∀(H:HV) (u v:AV) (x y:α),(f x).ok H u->(f y).ok H v->∀(o:BinOp) (p q:CR) (w:AR),(eqGuard o T p q u v).run P w= .ok () w
 agg:∀x,(f x).agg=true
def Pr[DecidableEq α]{m n:α}(h:Ui P T f)(hx:Arg Γ x (f m))(hy:Arg Γ y (f n)):B0 P Γ ⟨d,.binOp .eql T x y T',ty,pos,af,g⟩ (.val<|Ay<|decide<|m=n):=
 IA hx hy λH u v hu hv w _=>by have e1:=h.run H u v m n hu hv w;have e2:=h.guard H u v m n hu hv .eql x y w;refine⟨.bool<|decide<|m=n,?_,rfl⟩;have a1:=((f m).shape hu).eq;have a2:=((f n).shape hv).eq;rw[h.agg] at a1 a2;simp only[H6] at a1 a2;simp only[E6,e2,Dt];rw[a1,a2] at e1⊢;simp[binOp,e1]
def rD[DecidableEq α]{m n:α}(h:Ui P T f)(hx:Arg Γ x (f m))(hy:Arg Γ y (f n)):B0 P Γ ⟨d,.binOp .neq T x y T',ty,pos,af,g⟩ (.val<|Ay<| !decide (m=n)):=
 IA hx hy λH u v hu hv w _=>by have e1:=h.run H u v m n hu hv w;have e2:=h.guard H u v m n hu hv .neq x y w;refine⟨.bool<| !decide (m=n),?_,rfl⟩;have a1:=((f m).shape hu).eq;have a2:=((f n).shape hv).eq;rw[h.agg] at a1 a2;simp only[H6] at a1 a2;simp only[E6,e2,Dt];rw[a1,a2] at e1⊢;simp[binOp,e1]
def AM:A3 Int->Int
 |[]=>0|x::l=>x+18446744073709551616*AM l
def okW(l:A3 Int):Prop:=∀x∈l,0<=x/\x<18446744073709551616
@[reducible] def Cn(x:Int×A3 Int):Ty:=DH [(TI .i64) x.1,(TN<|TI .u64) x.2]
def Cm(r:Int×A3 Int)(z:Int):Prop:=(r.2=[]/\r.1=z/\DW z)\/(r.2≠[]/\(r.1=1\/r.1= -1)/\okW r.2/\r.2.getLast?≠some 0/\z=r.1*AM r.2/\9223372036854775807<AM r.2)
def EM(z:Int):Ty:=TEx 2 true (λr=>Cm r z) Cn (λ_=>rfl)<|λ_=>rfl
@[reducible] def C3(q:Rat):Ty:=DH [EM q.num,EM q.den]
def Y2{k:Nat}(h:look Γ p=some (.KH t j sz))(hf:Gf P T k off=true):B0 P Γ ⟨d,.fieldAddr T (.tmp p) k,ty,pos,af,g⟩ (.bpf t<|j*sz+off):=
 Dp λ_ _ _ a w _ hs=>by
  let⟨b,len,cap,e1,e2⟩:=hs.holds _<|BD h
  have e':a.eval (.tmp p)= .pointer (some ⟨b,j*sz,none⟩):=e2;exact⟨.pointer<|some ⟨b,j*sz+off,none⟩,by simp[execOp,e',YP hf],⟨b,len,cap,e1,rfl⟩,rfl⟩
theorem aoK{B:Ah P}{l:A3 Ty}{ρ:Ty}(h:(AS.buf E sz l).holds B a w H v)(hu:G1 sz l)(hj:l[j]? =some ρ):∃b cap cs,v= .slice (some ⟨b,0,none⟩) l.length cap/\w.heap[b]? =some (.cells cs E (0,0))/\j*sz+sz<=cs.size/\ρ.ok H (H6 ρ.agg ((cs.toList.drop<|j*sz).take ρ.n).toArray):=by
 have Jv:=(FX.1 hj).1;let⟨b,cap,cs,xs,e,hb,hcap,_,hcs,hx,htake,ho,_,_⟩:=WB h (λe=>by rw[e] at Jv;simp at Jv);let⟨p1,p2⟩:=Nb ho hj;have hρ:=hu ρ<|KC hj
 have hc:CS (l.take j)=j*sz:=by rw[Ka<|hu.take _,EK,EZ (by omega)]
 rw[hc] at p1 p2;have sE:l.length*sz<=cs.size:=by grind
 have OC:List.take ρ.n (List.drop (j*sz) cs.toList)=List.take ρ.n (List.drop (j*sz) xs):=by
  rw[<-htake,MX,OV]
  congr 1;omega
 refine⟨b,cap,cs,e,hb,by omega,?_⟩;rw[OC];exact p2
def eP{y:α}(hf:∀z,(f z).n=sz)(hp:look Γ p=some (.bpf t<|j*sz+off))(ht:look Γ t=some (.buf E sz<|lT f l))(h:l[j]? =some y)(ha:(f y).agg=true)(hq:BZ (f y) off σ)(hT:Bv P T σ.n σ.agg=true):B0 P Γ ⟨d,.load T<| .tmp p,ty,pos,af,g⟩ (.val σ):=
 Dp λw0 _ _ a w H BJ=>by
  let⟨b,cap,cs,e,hb,hsz,Az⟩:=aoK (BJ.holds _<|BD ht) (K4 hf l) (j:=j) (ρ:=f y) (by rw[HL,h];rfl);let⟨b',sx,bI,e1,e2⟩:=BJ.holds _<|BD hp
  simp only at e e1;rw[e] at e1;cases e1;have e3:a.eval (.tmp p)= .pointer (some ⟨b,j*sz+off,none⟩):=e2;rw[ha] at Az;let⟨h1,h2⟩:=hq _ _ Az;simp only[YF] at h1 h2;have hn:=hf y;have hlen:(List.take (f y).n<|List.drop (j*sz) cs.toList).toArray.size=(f y).n:=by simp;omega
  rw[hlen] at h1;refine⟨_,?_,h2,rfl⟩;have hr:=Rp (P:=P) hT hb (off:=j*sz+off) (by omega);have OC:List.take σ.n (List.drop (j*sz+off) cs.toList)=List.take σ.n (List.drop off<|List.take (f y).n<|List.drop (j*sz) cs.toList):=by
   rw[MX,OV,Fe]
   congr 1;omega
  rw[OC] at hr;simp[execOp,e3,Instr.loadAt,Instr.sureAddr,hr]
theorem amT{Ai:Ctx}(BI:∀q∈Ai,q∈Γ){y y':α}(hf:∀z,(f z).n=sz)(hp:look Ai p=some (.bpf t<|j*sz+off))(ht:look Ai t=some (.buf E sz<|lT f l))(h:l[j]? =some y)(hx:Arg Ai x σ)(ha:(f y).agg=true)(hs:HC (f y) off σ (f y'))(hT:Bv P T σ.n σ.agg=true):Step P N ops ⟨none,.store T (.tmp p) x,ty,pos,af,none⟩ Γ ((t,.buf E sz<|lT f<|l.set j y')::BL t Γ):=by
 intro w0 H0 a w H BJ K Q k;simp[Region.wanted,if_true];have hj:(lT f l)[j]? =some (f y):=by grind
 have hu:=K4 hf l;have Jv:=(FX.1 hj).1;let⟨b,cap,cs,xs,e,hb,hcap,hml,hcs,GZ,htake,ho,hH,hB⟩:=WB (BJ.holds _<|BI _<|BD ht) (λe=>by rw[e] at Jv;simp at Jv);let⟨b',sx,bI,e1,e2⟩:=BJ.holds _<|BI _<|BD hp
 simp only at e e1;rw[e] at e1;cases e1;have ep:a.eval (.tmp p)= .pointer (some ⟨b,j*sz+off,none⟩):=e2;have Hx:=hx.ok<|BJ.weaken BI
 have CW:=σ.shape Hx;have hc:CS ((lT f l).take j)=j*sz:=by rw[Ka<|hu.take _,EK,EZ<|WH Jv]
 let⟨p1,p2⟩:=Nb ho hj;rw[hc,hf y] at p1;rw[hc,hf y] at p2;have sE:(lT f l).length*sz<=cs.size:=by grind
 generalize OC:List.take sz (List.drop (j*sz) xs)=Kw at p2
 have jq:Kw.length=sz:=by grind
 rw[ha] at p2;let⟨s1,x',s2,s3⟩:=hs _ _ _ p2 Hx;simp[YF,iS,jq] at s1;simp only[YF] at s3;have Mp:=UA ho hj ((hf y').trans (hf y).symm) s2;rw[hc,hf y] at Mp;have FC:=TT (P:=P) (off:=j*sz+off) (U4 hT) CW.size hb (by omega) CW.cell;unfold Oper.wp;have er:(execOp a.eval ⟨none,.store T (.tmp p) x,ty,pos,af,none⟩).run P w= .ok .skip (w.setRow b (cs.toList.take (j*sz+off)++(a.eval x).cells.toList++cs.toList.drop (j*sz+off+σ.n)).toArray):=by simp[execOp,ep,Instr.storeAt,Instr.sureAddr,FC]
 rw[er,Qk]
 generalize tQ:(cs.toList.take (j*sz+off)++(a.eval x).cells.toList++cs.toList.drop (j*sz+off+σ.n)).toArray=ED
 have hg:Ef w (w.setRow b ED) (some b):=Ef.setRow w b _;have hlen:(a.eval x).cells.toList.length=σ.n:=by rw[Fv,CW.size]
 have atF:x'.cells.toList=List.take off Kw++(a.eval x).cells.toList++List.drop (off+σ.n) Kw:=by rw[s3]
 have auO:ED.toList=cs.toList.take (j*sz+off)++(a.eval x).cells.toList++cs.toList.drop (j*sz+off+σ.n):=by rw[<-tQ]
 refine k a _ H (PB BJ (BI _<|BD ht) hg hB (by simp[AS.owns,e,Value.ownBlock]) ?_ λc hc=> .inl hc);have hl2:(lT f<|l.set j y').length=(lT f l).length:=by simp
 have auN:ED.size=cs.size:=by grind
 refine⟨List.take ((lT f l).length*sz) ED.toList,⟨?_,.inr ⟨b,cap,ED,by rw[hl2];simpa using e,FV _,UC w b _ _ _ _ hb,by rw[hl2];exact hcap,hml,by rw[auN,hcs],by rw[hl2]⟩⟩,?_,?_⟩
 .grind
 .have arL:List.take ((lT f l).length*sz) ED.toList=List.take (j*sz) xs++x'.cells.toList++List.drop (j*sz+sz) xs:=by
   have hy:(a.eval x).cells.toList.length=σ.n:=hlen;rw[auO,yh hy (by omega) (by rw[Fv];omega),htake,atF];have t1:List.take (j*sz+off) xs=List.take (j*sz) xs++List.take off Kw:=by grind
   have t2:List.drop (j*sz+off+σ.n) xs=List.drop (off+σ.n) Kw++List.drop (j*sz+sz) xs:=by
    rw[<-OC,MX,Fe];have:List.drop (j*sz+sz) xs=List.drop (sz-(off+σ.n)) (List.drop (j*sz+(off+σ.n)) xs):=by rw[Fe];congr 1;omega
    rw[this,Oi]
    congr 1;omega
   rw[t1,t2];simp[ID]
  rw[arL];rw[show lT f (l.set j y')=(lT f l).set j (f y') from by simp[lT,UE]];exact Mp
 .intro c hc;simp[e,Value.ownBlock] at hc;subst hc;exact⟨hH,hB⟩
def aod{y y':α}(hf:∀z,(f z).n=sz)(hp:look Γ p=some (.bpf t<|j*sz+off))(ht:look Γ t=some (.buf E sz<|lT f l))(h:l[j]? =some y)(hx:Arg Γ x σ)(ha:(f y).agg=true)(hs:HC (f y) off σ (f y'))(hT:Bv P T σ.n σ.agg=true):Step P N ops ⟨none,.store T (.tmp p) x,ty,pos,af,none⟩ Γ ((t,.buf E sz<|lT f<|l.set j y')::BL t Γ):=amT (λ_ h=>h) hf hp ht h hx ha hs hT
def akK(hT:HE P T E sz=true)(w:AR):(Instr.buildSlice T 0 #[]).run P w= .ok (.slice (some ⟨w.heap.size,0,none⟩) 0 0) (w.alloc<| .cells #[] E):=by
 unfold HE at hT;split at hT
 .rename_i e hu;simp only[C9] at hT;let⟨h1,h2⟩:=hT;have h1:=EF h1;subst h1;split at h2
  .rename_i i hi;have h2:=EF h2;have IM:(Go.sizeOf e).run P w= .ok sz w:=by simp[Go.sizeOf,typeInfo,program,Sem.run,hi,h2]
   have Kz:(Array.range 0:BG Nat)= #[]:=rfl;simp only[Instr.buildSlice,E6,Dt,Ey hu,IM,iC];rw[if_neg (by omega)];simp[newRow,Instr.fill,Kz]
  .cases h2
 .cases hT
def QZ(f:α->Ty)(hT:HE P T E sz=true):B0 P Γ ⟨d,.buildSlice T 0 #[],ty,pos,af,g⟩ (.buf E sz<|lT f []):=
 MM λw0 H0 N a w H hs=>by
  refine⟨.slice (some ⟨w.heap.size,0,none⟩) 0 0,w.alloc<| .cells #[] E,H,by simp only[execOp,E6,Array.map_empty,akK hT];rfl,Ext.alloc hs.sub _,⟨[],⟨by simp,.inr ⟨w.heap.size,0,#[],rfl,FV _,Lx w _,BQ _,by rw[Uk];omega,by simp,by simp⟩⟩,rfl,?_⟩,?_⟩
  .intro b hb;simp[Value.ownBlock] at hb;subst hb;refine⟨?_,.inl hs.below.size⟩;cases hh:H w.heap.size with|none=>rfl|some o=>have:=HN hs.sub hh;omega
  .intro b hb;simp[AS.owns,Value.ownBlock] at hb;omega
def ajN{T:Nat}{l:A3 Ty}(hT:Lf P T len sz=true)(hu:G1 sz l)(hl:l.length=len)(hx:Arg Γ x (Jl<|DH l)):B0 P Γ ⟨d,.slice T x none none none,ty,pos,af,g⟩ (.val<|GJ l):=
 Dp λw0 _ _ a w H hs=>by
  let⟨b,off,cs,E,fr,e,hb,hsz,Az⟩:=hx.ok hs;let⟨el,i,hu2,hi,h2⟩:=pN hT;have IM:∀w,(Go.sizeOf el).run P w= .ok sz w:=λw=>by simp[Go.sizeOf,typeInfo,program,Sem.run,hi,h2]
  refine⟨.slice (some<|if len=0 then⟨b,off,none⟩ else(⟨b,off,none⟩:Addr).add (0*sz)) len len,?_,?_,rfl⟩
  .simp[execOp,e,Instr.sliceAt,Ey hu2,Instr.sureAddr,Instr.sliceBounds,IM]
  .let⟨cs2,e2,ho⟩:=Az;have tP:cs2=(List.take (DH l).n<|List.drop off cs.toList).toArray:=by have:(DH l).agg=true:=rfl;rw[this] at e2;simp only[H6] at e2;exact(Value.agg.inj e2).symm
   refine⟨_,len,by rw[hl],by omega,λhne=>⟨b,off,cs,E,fr,?_,hb,hsz,?_⟩⟩
   .simp[addr_add]
   .rw[tP] at ho;exact ho
def Flat(τ:Ty):Prop:=∀H H' v,τ.ok H v->τ.ok H' v
def Flat.int:Flat (TI k n):=λ_ _ _ h=>h
def Flat.bool:Flat (Ay b):=λ_ _ _ h=>h
inductive Kl(Γ:Ctx):A3 CR->A3 Ty->Prop where
 |nil:Kl Γ [] []|cons {x:CR} {τ:Ty} {xs:A3 CR} {l:A3 Ty} (h:Arg Γ x τ) (r:Kl Γ xs l):Kl Γ (x::xs) (τ::l)|buf {t:Nat} {E:Ap} {sz:Nat} {bl:A3 Ty} {xs:A3 CR} {l:A3 Ty} (h:look Γ t=some (.buf E sz bl)) (r:Kl Γ xs l):Kl Γ (.tmp t::xs) (GJ bl::l)|same {s t:Nat} {E:Ap} {sz:Nat} {bl:A3 Ty} {xs:A3 CR} {l:A3 Ty} (hs:look Γ s=some (.same t)) (h:look Γ t=some (.buf E sz bl)) (r:Kl Γ xs l):Kl Γ (.tmp s::xs) (GJ bl::l)
def full(w:AR):HV:=λr=>w.heap[r]?
def Kl.ok{xs:A3 CR}{l:A3 Ty}(h:Kl Γ xs l){w0:Ah P}{H0:HV}{N:Nat}{a:Act}{w:AR}{H:HV}(hs:Sat w0 H0 N Γ a w H):Ee (full w) l (xs.map a.eval):=by
 have hle:HV.le H (full w):=hs.sub
 induction h with
 |nil=>rfl|cons h _ ih=>exact⟨_,_,rfl,Ty.mono _ hle<|h.ok hs,ih⟩|buf h _ ih=>exact⟨_,_,rfl,Wh (hs.holds _<|BD h) hle<|λb _ _ o ho=>ho,ih⟩
 | @same s t E sz bl xs l hsm h _ ih=>
  refine⟨_,_,rfl,?_,ih⟩;have e:Ae a s=Ae a t:=hs.holds _<|BD hsm
  show(GJ bl).ok _ (Ae a s);rw[e];exact Wh (hs.holds _<|BD h) hle<|λb _ _ o ho=>ho
def zH{H H':HV}:∀{l:A3 Ty} {vs:A3 AV},(∀τ∈l,Flat τ)->Ee H l vs->Ee H' l vs
 |[],_,_,e=>e|τ::_,_,hf,⟨v,rest,e,hv,hr⟩=>⟨v,rest,e,hf τ (by simp) _ _ _ hv,zH (λx hx=>hf x (by simp[hx])) hr⟩
def ahg{H':HV}{l:A3 Ty}(hf:∀τ∈l,Flat τ)(h:LZ H l v):LZ H' l v:=by match l,h with|[],h=>exact h|[τ],h=>exact hf τ (by simp) _ _ _ h|τ::Gx::l,⟨vs,e,h⟩=>exact⟨vs,e,zH hf h⟩
def yJ{f:FuncId}(hf:Eg P f args (.vs Bs))(ha:Kl Γ xs args)(hfl:∀τ∈Bs,Flat τ):B0 P Γ ⟨d,.call ⟨.value<| .func f,xs.toArray,F5⟩,ty,pos,af,g⟩ (Im Bs):=by
 intro w0 H0 N a w H hs K Q k;unfold Oper.wp;have e:execOp a.eval ⟨d,.call ⟨.value<| .func f,xs.toArray,F5⟩,ty,pos,af,g⟩=callFunc f (#[]++xs.toArray.map a.eval++ #[]):=rfl;rw[e,PC hf.can,WO];have e2:(#[]++xs.toArray.map a.eval++ #[])=(xs.map a.eval).toArray:=by simp
 rw[e2];refine(hf.run w (full w) _ (λ_ _ h=>h) (hs.gl.mono hs.sub)<|ha.ok hs).mono ?_;rintro e w' ⟨v,rfl,hb,H',h1,h2,h3⟩;have he:Ext w H w' H:=⟨hb,HV.le.refl _,λ_ _=>rfl,λr o h=>by rw[hb.block r<|HN hs.sub h];exact hs.sub r o h⟩;exact k v w' H he (Vh<|ahg hfl h3)<|λb e=>absurd e<|AS.free_spec Vq
def flc{l:A3 Ty}(h:Flat τ)(r:∀x∈l,Flat x):∀x∈τ::l,Flat x:=λx hx=>by
 rcases Am.1 hx with e|hx
 .rw[e];exact h
 .exact r x hx
def fln:∀x∈([]:A3 Ty),Flat x:=λx hx=>by cases hx
end
section
variable[D:DR]
variable{P:Program}{w0:Ah P}{H0:HV}{N:Nat}{Q:Exit->Act->World->Prop}{Γ Aq:Ctx}
def ahK{w0:Ah P}(hr:w0.rd=none):Fx w0.rd=Fence.wide:=by rw[hr];rfl
def aoB{c:Code}(hr:w0.rd=none)(h:Goal P w0 H0 N c (Exit.noGoto Q) Γ):Goal P w0 H0 N (.scope c) Q Γ:=λa w H hs=>by have:=h a w H hs;rw[ahK hr] at this⊢;exact wpIn_wide.2<|wp_scope_straight<|wpIn_wide.1 this
def aoD{l:Nat}(k:EN w0 H0 N (Q .normal) Γ):Goal P w0 H0 N (.label l) Q Γ:=λa w H hs=>wpIn_label<|k a w H hs
end
section
variable[D:DR]
variable{P:Program}{N:Nat}{ops:Array Oper}{Γ Aq:Ctx}{d:Option Tmp}{ty:TypeId}{pos:String}{af:Array Edge}{g:Option (Nat×Bool)}
variable{α β:Type}{A:α->A3 Ty}{R:β->A3 Ty}
def TFn(P:CP){α β:Type}(A:α->A3 Ty)(R:β->A3 Ty)(g:α->A9 β):Ty where
 n:=1
 agg:=false
 ok:=λH v=>∃f cap FD,v= .func (.func f) #[] cap/\Ee H FD cap.toList/\∀a r,g a=some r-> @Eg DR.strict P f (A a++FD) (.vs<|R r)
 mono:=λh ⟨f,cap,FD,e,k,hf⟩=>⟨f,cap,FD,e,Yw h k,hf⟩
 shape:=λ⟨_,_,_,e,_,_⟩=>by subst e;exact Shape.one rfl
def Ya{H:HV}:∀{l:A3 Ty} {vs:A3 AV} {l':A3 Ty} {vs':A3 AV},Ee H l vs->Ee H l' vs'->Ee H (l++l') (vs++vs')
 |[],_,_,_,e,h=>by subst e;exact h|_::_,_,_,_,⟨v,rest,e,hv,hr⟩,h=>by subst e;exact⟨v,_,rfl,hv,Ya hr h⟩
def gH{fn:α->A9 β}{t:Nat}{xs:A3 CR}{F5:BG Ap}{x:α}{r:β}(hf:look Γ t=some (.val<|TFn P A R fn))(h:fn x=some r)(ha:AP Γ xs (A x)):B0 P Γ ⟨d,.call ⟨.value<| .tmp t,xs.toArray,F5⟩,ty,pos,af,g⟩ (Im<|R r):=by
 intro w0 H0 N a w H hs K Q k;let⟨f,cap,FD,e,hc,IU⟩:=hs.holds _<|BD hf
 have hf:=(IU x r h).asF (D:=D);unfold Oper.wp;have e1:a.eval (.tmp t)= .func (.func f) #[] cap:=e;have e0:execOp a.eval ⟨d,.call ⟨.value<| .tmp t,xs.toArray,F5⟩,ty,pos,af,g⟩=callFunc f (#[]++xs.toArray.map a.eval++cap):=by
  simp[execOp,resolve,e1,Deferred.ofValue,pure_bind]
  rfl
 rw[e0,PC hf.can,WO];have e2:(#[]++xs.toArray.map a.eval++cap)=(xs.map a.eval++cap.toList).toArray:=by simp
 rw[e2];refine(hf.run w H _ hs.sub hs.gl<|Ya (ha.ok hs) hc).mono ?_;rintro e w' ⟨v,rfl,hb,H',h1,h2,h3⟩;have he:Ext w H w' H':=⟨hb,λr o h=>by rw[h1 r<|HN hs.sub h];exact h,h1,h2⟩;exact k v w' H' he (Vh h3)<|λb e=>absurd e<|AS.free_spec Vq
def nK{fn:α->A9 β}{f:FuncId}{xs:A3 CR}{FD:A3 Ty}(ha:AP Γ xs FD)(h:∀a r,fn a=some r-> @Eg DR.strict P f (A a++FD) (.vs<|R r)):B0 P Γ ⟨d,.makeFunc (.func f) #[] xs.toArray,ty,pos,af,g⟩ (.val<|TFn P A R fn):=
 Dp λ_ _ _ a w H hs=>by refine⟨.func (.func f) #[] (xs.map a.eval).toArray,?_,⟨f,_,FD,rfl,by simpa using ha.ok hs,h⟩,rfl⟩;simp[execOp,Instr.makeFunc]
def Arg.fn{α β:Type}{A:α->A3 Ty}{R:β->A3 Ty}{fn:α->A9 β}{f:FuncId}(h:∀a r,fn a=some r-> @Eg DR.strict P f (A a) (.vs<|R r)):Arg Γ (.func f) (TFn P A R fn):=⟨λ_=>⟨f,#[],[],rfl,rfl,λa r e=>by simpa using h a r e⟩⟩
def akI{w0:Ah P}{H0:HV}{a:Act}{w w':AR}{H H':HV}{row:A9 Nat}(hs:Sat w0 H0 N Γ a w H)(hg:Ef w w' row)(Hf:∀b,row=some b->w0.EH b/\H b=none/\∀l,w.heap[b]? ≠some (.deferred l))(hle:HV.le H H')(hold:∀b,b<w.heap.size->row≠some b->H' b=H b)(BI:∀b o,H' b=some o->w'.heap[b]? =some o)
  (hn:∀p∈Aq,p∈Γ/\∀b,p.2.owns w (Ae a p.1) b->row≠some b):Sat w0 H0 N Aq a w' H':=by
 have E9:∀b,b<w.heap.size->row≠some b->w'.heap[b]? =w.heap[b]? /\H' b=H b:=λb hb hn=>⟨hg.block b hb<|λe=>hn e.symm,hold b hb hn⟩
 refine Vy (ds:=a.defers) hs (hs.below.Lb hg<|λk hk=>(Hf k hk).1) hg.drawn ?_ hg.size hle BI ?_ ?_ ?_
 .intro _ r hr hx;exact hold r (KA hr hs.below.size) (λe=>by
   rcases(Hf r e).1 with h|h
   .omega
   .exact hx h)
 .intro _ b hb G0;exact E9 b hb (λe=>by have:=Ah.Qe (Hf b e).1;omega)
 .intro p hp;exact⟨(hn p hp).1,λb hb=>E9 b (AS.J9 (hs.holds p (hn p hp).1) hb).1<|(hn p hp).2 b hb⟩
 .exact hs.nd.kept λD _ h1 h2=>by
   have:=E9 D (lt_of_heap h1)<|λe=>(Hf D e).2.2 _ h1
   exact⟨by rw[this.1];exact h1,by rw[this.2];exact h2⟩
end
section
variable[D:DR]
def JS{α σ ρ:Type}:A3 α->((σ->A9 ρ)->α->σ->A9 ρ)->σ->(σ->A9 ρ)->A9 ρ
 |[],_,s,K=>K s|x::xs,B,s,K=>B (λs=>JS xs B s K) x s
structure RN(M:Nat->Prop)(w:AR)(H:HV)(w':AR)(H':HV):Prop where
 size:w.heap.size<=w'.heap.size
 os:w'.os=w.os
 tape:w'.tape=w.tape
 output:w'.output=w.output
 drawn:H9 w w'
 le:HV.le H H'
 E9:∀b,b<w.heap.size-> ¬M b->w'.heap[b]? =w.heap[b]? /\H' b=H b
 sub:∀r o,H' r=some o->w'.heap[r]? =some o
def Zy{α σ ρ:Type}(P:CP)(l:Nat)(enc:α->A3 Ty)(Bd:(σ->A9 ρ)->α->σ->A9 ρ)(r:ρ)(J:σ->Inv->Prop)(Jx:Inv->Prop)(n0:Nat):Prop:=
 ∀(next:σ->A9 ρ) (x:α) (s:σ) (I:Inv) (W:AR) (H:HV) (vs:A3 AV),Bd next x s=some r->J s I->I.n=n0->I.p W H->(∀r o,H r=some o->W.heap[r]? =some o)->LY P H->Ee H (enc x) vs->YieldAt (Fx none) 0 P l vs.toArray W λe W'=>∃H' I',I'.n=n0/\I'.p W' H'/\RN I.M W H W' H'/\(∀b,I'.M b->I.M b\/W.heap.size<=b)/\
   ((e= .returned (.bool true)/\∃s',next s'=some r/\J s' I')\/(e= .returned (.bool false)/\Jx I'))
def Z5(P:CP)(gf:FuncId)(FD:A3 Ty){α:Type}(enc:α->A3 Ty)(L:A3 α):Prop:=
 Gq P gf=true/\∀{σ ρ:Type} (Bd:(σ->A9 ρ)->α->σ->A9 ρ) (K:σ->A9 ρ) (s0:σ) (r:ρ),JS L Bd s0 K=some r->∀(l:Nat) (J:σ->Inv->Prop) (Jx:Inv->Prop) (w:AR) (H:HV) (cvs:A3 AV) (I0:Inv),(∀r o,H r=some o->w.heap[r]? =some o)->LY P H->Ee H FD cvs->J s0 I0->I0.n=w.heap.size->I0.p w H->Zy P l enc Bd r J Jx w.heap.size->Calls P gf (.func (.yield l) #[] #[]::cvs).toArray w λe w'=>(∃v,e= .returned v)/\∃H' I',I'.p w' H'/\(∀r o,H' r=some o->w'.heap[r]? =some o)/\((∃s,K s=some r/\J s I')\/Jx I')
def V6(P:CP){α:Type}(enc:α->A3 Ty)(o:A9 (A3 α)):Ty where
 n:=1
 agg:=false
 ok:=λH v=>∃gf cap FD,v= .func (.func gf) #[] cap/\Ee H FD cap.toList/\∀L,o=some L->Z5 P gf FD enc L
 mono:=λh ⟨gf,cap,FD,e,k,s⟩=>⟨gf,cap,FD,e,Yw h k,s⟩
 shape:=λ⟨_,_,_,e,_⟩=>by subst e;exact Shape.one rfl
end
section
variable[D:DR]
variable{P:Program}{w0:Ah P}{H0:HV}{N:Nat}{Q:Exit->Act->World->Prop}{Γ Aq:Ctx}
variable{w:AR}{H:HV}{T:A3 Nat}{l:Nat}{rc:Loop}{σ ρ:Type}{r:ρ}{ts:A3 Nat}{a:Act}
def aK(N:Nat)(T:A3 Nat)(Γ:Ctx):Bool:=Γ.all λp=>Nat.blt p.1 N&&T.contains p.1&&p.2.CD.all (λt=>T.contains t)&& !p.2.F1
theorem PI{N:Nat}{Γ:Ctx}(h:aK N T Γ=true){p:Nat×AS}(hp:p∈Γ):p.1<N/\p.1∈T/\(∀t∈p.2.CD,t∈T)/\p.2.F1=false:=by(simp_all [aK,AS.CD,AS.F1]<;>grind)
def pins(N:Nat)(T:A3 Nat)(pv:Nat->AV):Ctx:=T.map λt=>(N+1+t,.KP t<|pv t)
def params:A3 Nat->A3 Ty->Ctx
 |p::ps,τ::τs=>(p,.val τ)::params ps τs|_,_=>[]
def busy(rc:Loop):Loop:={rc with state:= .busy}
def sV(wr:Ah P)(Hr:HV)(N l:Nat)(rc:Loop)(T:A3 Nat)(pv:Nat->AV){σ ρ:Type}(Ai:σ->Ctx)(KN:A9 Ctx)(next:σ->A9 ρ)(r:ρ):Exit->Act->AR->Prop
 | .normal,a,w=>∃s',next s'=some r/\∃H,Sat wr Hr N ((N,.E0 l<|busy rc)::(pins N T pv++Ai s')) a w H| .ret,a,w=>∃G,KN=some G/\∃H,Sat wr Hr N ((N,.E0 l<|busy rc)::(pins N T pv++G)) a w H|_,_,_=>False
def abH(wr:Ah P)(Hr:HV)(N l:Nat)(rc:Loop)(T:A3 Nat)(pv:Nat->AV){σ ρ:Type}(body:Code)(Ai:σ->Ctx)(KN:A9 Ctx)(next:σ->A9 ρ)(r:ρ):Exit->Act->AR->Prop
 | .normal,a,w=>∃Γa H,Sat wr Hr N ((N,.E0 l rc)::Γa) a w H/\BL N Γa=Γa/\Goal P wr Hr N body (sV wr Hr N l rc T pv Ai KN next r) ((N,.E0 l<|busy rc)::Γa)|_,_,_=>False
def sJ{wr:Ah P}{Hr:HV}{pv:Nat->AV}{body:Code}{Ai:σ->Ctx}{KN:A9 Ctx}{next:σ->A9 ρ}{Γa:Ctx}
 (h:EU Γ ts ((N,.E0 l rc)::Γa))(hf:BL N Γa=Γa)(g:Goal P wr Hr N body (sV wr Hr N l rc T pv Ai KN next r) ((N,.E0 l<|busy rc)::Γa)):EN wr Hr N (abH wr Hr N l rc T pv body Ai KN next r .normal) Γ:=λ_ _ H hs=>⟨Γa,H,hs.weaken h.sub,hf,g⟩
def jD{wr:Ah P}{Hr:HV}{pv:Nat->AV}{Ai:σ->Ctx}{KN:A9 Ctx}{next:σ->A9 ρ}{s':σ}(hm:next s'=some r)
 (h:EU Γ ts ((N,.E0 l<|busy rc)::(pins N T pv++Ai s'))):EN wr Hr N (sV wr Hr N l rc T pv Ai KN next r .normal) Γ:=λ_ _ H hs=>⟨s',hm,H,hs.weaken h.sub⟩
def Ef.putObj(w:AR)(l:Nat)(o:Obj):Ef w (w.putObj l o) (some l):=⟨⟨rfl,rfl,rfl,by simp,λj _ hj=>Zr (λe=>hj (by rw[e]))⟩,BQ _⟩
def ZD{k:Nat}{rc':Loop}(hs:Sat w0 H0 N Γ a w H)(hk:(k,.E0 l rc)∈Γ):Sat w0 H0 N ((k,.E0 l rc')::BL k Γ) a (w.putObj l<| .loop rc') H:=by let⟨h1,h2,h3⟩:=hs.holds _ hk;exact PB hs hk (Ef.putObj w l _) h3 rfl ⟨qc<|lt_of_heap h1,h2,h3⟩ λc hc=> .inl hc
def Sat.aoO(hs:Sat w0 H0 N Γ a w H):∀{G:Ctx},(∀p∈G,p.2.free=true/\p.2.holds w0 a w H (Ae a p.1))->Sat w0 H0 N (G++Γ) a w H:=λ{G} h=>by
 refine⟨hs.nd,hs.sz,hs.below,hs.Fj,hs.sub,?_,?_,hs.gl⟩
 .intro p hp;rcases CJ.1 hp with hp|hp
  .exact(h p hp).2
  .exact hs.holds p hp
 .intro p hp q hq hne b hb Bg;rcases CJ.1 hp with hp|hp
  .exact AS.free_spec (h p hp).1 hb
  .rcases CJ.1 hq with hq|hq
   .exact AS.free_spec (h q hq).1 Bg
   .exact hs.sep p hp q hq hne b hb Bg
def xG{w:AR}{H:HV}:∀{ps:A3 Nat} {τs:A3 Ty} {vs:A3 AV} {Γ:Ctx} {a:Act},Ee H τs vs->ps.length=τs.length->(∀p∈ps,p<N/\Jc p Γ=true)->ps.Nodup->Sat w0 H0 N Γ a w H->∃G,(∀q∈params ps τs++Γ,q∈G)/\Sat w0 H0 N G {tmps:=(ps.zip vs).foldl (λt (p,v)=>t.setIfInBounds p v) a.tmps,defers:=a.defers} w H
 |[],[],vs,Γ,a,ho,_,_,_,hs=>by have:vs=[]:=ho;subst this;exact⟨Γ,λq hq=>hq,hs⟩
 |[],_::_,_,_,_,_,hl,_,_,_=>by simp at hl|_::_,[],_,_,_,_,hl,_,_,_=>by simp at hl
 |p::ps,τ::τs,_,Γ,a,⟨v,rest,e,hv,hr⟩,hl,hp,hn,hs=>by
  subst e;let⟨hn1,IW⟩:=iN.1 hn;have h1:=QV hs (hp p (by simp)).1 (hp p (by simp)).2 (s:= .val τ) (v:=v) (by simp[AS.CD]) hv<|λb h=>h.elim
  let⟨G,hG,hS⟩:=xG (ps:=ps) (τs:=τs) (vs:=rest) (Γ:=(p,.val τ)::Γ) hr (by simpa using hl) (λq hq=>⟨(hp q (by simp[hq])).1,by have:=(hp q (by simp[hq])).2;simp only[Jc,OU,C9] at this⊢;refine⟨⟨?_,by simp[AS.CD]⟩,this⟩;simp[MU,ne_eq];exact λe=>hn1<|e▸hq⟩) IW h1
  refine⟨G,λq hq=>hG q ?_,hS⟩;simp[params,Se,Am,CJ] at hq⊢;rcases hq with h|h|h
  .exact .inr<| .inl h
  .exact .inl h
  .exact .inr<| .inr h
def Marks.tail{B:Ah P}{w:AR}{H:HV}:∀{l m:A3 Deferred},Marks B w H (l++m)->Marks B w H m
 |[],_,h=>h|_::_,_,h=>Marks.tail h.2
def Marks.both{B B':Ah P}{w w':AR}{H H':HV}:∀{l:A3 Deferred},Marks B w H l->Marks B' w' H' l->Marks B w' H' l
 |[],_,_=>trivial
 |_::_,⟨⟨D,e,h1,_,_,h4⟩,hr⟩,⟨⟨D',e',_,g2,g3,_⟩,gr⟩=>by rw[e] at e';cases e';exact⟨⟨D,e,h1,g2,g3,h4⟩,hr.both gr⟩
def kL(w0:Ah P)(H0:HV)(N:Nat)(Γ:Ctx)(a:Act)(n1:Nat)(M:Nat->Prop)(FJ:∀p∈Γ,p.2.F1=false)(hn:w0.n<=n1)(hD:∀D,({target:= .collected D,args:= #[]}:Deferred)∈a.defers++w0.ds->D<n1):Inv where
 n:=n1
 M:=M
 p:=λW H=>Sat w0 H0 N Γ a W H/\∀b,M b↔∃p∈Γ,p.2.owns W (Ae a p.1) b
 lt:=λ⟨hS,hM⟩ hb=>by let⟨p,hp,hb⟩:=(hM _).1 hb;exact AS.J9 (hS.holds p hp) hb
 step:=λ{w w' H H'} ⟨hS,hM⟩ F=>by
  have hk:∀p∈Γ,∀b,p.2.owns w (Ae a p.1) b->w'.heap[b]? =w.heap[b]? /\H' b=H b:=λp hp b hb=>by have h1:=(AS.J9 (hS.holds p hp) hb).1;have h2:M b:=(hM b).2 ⟨p,hp,hb⟩;exact⟨F.E9 b h1<| .inr h2,F.view b h1<| .inr h2⟩
  refine⟨Vy (ds:=a.defers) hS ?_ F.drawn ?_ F.size F.le F.sub ?_ (λp hp=>⟨hp,hk p hp⟩) ?_,λb=>?_⟩
  .exact⟨F.os.trans hS.below.os,F.tape.trans hS.below.tape,F.output.trans hS.below.output,Ch hS.below.drawn F.drawn,Ch hS.below.size F.size,λhv k hk hx=>(F.E9 k (KA hk hS.below.size)<| .inl<|KA hk hn).trans<|hS.below.block hv k hk hx⟩
  .exact λ_ r hr _=>F.view r (KA hr hS.below.size)<| .inl<|KA hr hn
  .rintro⟨p,hp,hi⟩;rw[FJ p hp] at hi;cases hi
  .exact hS.nd.kept λD hm h1 h2=>⟨by rw[F.E9 D (lt_of_heap h1)<| .inl<|hD D hm];exact h1,by rw[F.view D (lt_of_heap h1)<| .inl<|hD D hm];exact h2⟩
  .rw[hM b];have key:∀p∈Γ,∀b,p.2.owns w' (Ae a p.1) b↔p.2.owns w (Ae a p.1) b:=λp hp b=>by refine(AS.Vl (n:=0) (w':=w') (H':=H') (hS.holds p hp) (λhi=>by rw[FJ p hp] at hi;cases hi) ?_).2 b;exact⟨F.size,F.os,F.tape,F.output,F.drawn,F.le,λb _ h=>h.elim (λh=>by omega)<|λh=>(hk p hp b h).1,λb _ h=>h.elim (λh=>by omega)<|λh=>(hk p hp b h).2,F.sub⟩
   exact⟨λ⟨p,hp,h⟩=>⟨p,hp,(key p hp b).2 h⟩,λ⟨p,hp,h⟩=>⟨p,hp,(key p hp b).1 h⟩⟩
def qm{k:Nat}:∀{Γ:Ctx},(∀p∈Γ,p.1≠k)->BL k Γ=Γ
 |[],_=>rfl
 |p::Γ,h=>by
  have h1:Nat.beq p.1 k=false:=by
   cases hb:Nat.beq p.1 k
   .rfl
   .exact absurd (EF hb) (h p (by simp))
  simp[BL,h1,B8];rw[qm λq hq=>h q (by simp[hq])]
def Sat.defs{ds:A3 Deferred}(hs:Sat w0 H0 N Γ a w H)(hm:Marks w0 w H (ds++w0.ds)):Sat w0 H0 N Γ {a with defers:=ds} w H:=Vy (ds:=ds) hs hs.below (BQ _) (λ_ _ _ _=>rfl) (BQ _) (HV.le.refl _) hs.sub (λ_ _ _ _=>⟨rfl,rfl⟩) (λp hp=>⟨hp,λ_ _=>⟨rfl,rfl⟩⟩) hm
def yu{a3 aD:Act}{W W4:AR}{Hc H3:HV}{M:Nat->Prop}{G G':Ctx}(hS:Sat w0 H0 N G aD W Hc)(hds:w0.ds=[])(hrd:w0.rd=none)
 (hM:∀b,M b->w0.EH b/\Hc b=none)(wr:Ah P)(hwr:wr=⟨W,M,some l,false,aD.defers,0,FV _,λ_ _=>FV _⟩)
 (Hz:Sat wr Hc N ((N,.E0 l rc)::(pins N T (λt=>Ae aD t)++G')) a3 W4 H3)(hT:aK N T G'=true):Sat w0 H0 N ((N,.E0 l rc)::G') aD W4 H3/\RN M W Hc W4 H3/\∀p∈(N,AS.E0 l rc)::G',∀b,p.2.owns W4 (Ae aD p.1) b->M b\/W.heap.size<=b:=by
 have hwn:wr.n=W.heap.size:=by rw[hwr];rfl
 have hwX:wr.X=M:=by rw[hwr]
 have hwv:wr.Iv=false:=by rw[hwr]
 have atG:wr.ds=aD.defers:=by rw[hwr]
 have hww:wr.w=W:=by rw[hwr]
 have KP:∀t∈T,Ae a3 t=Ae aD t:=λt ht=>Hz.holds (N+1+t,.KP t<|Ae aD t)<|Br _<|KB _<|BM.2 ⟨t,ht,rfl⟩
 have mem:∀p∈(N,AS.E0 l rc)::G',p∈(N,AS.E0 l rc)::(pins N T (λt=>Ae aD t)++G'):=λp hp=>by
  rcases Am.1 hp with e|hp
  .subst e;simp
  .exact Br _<|WZ _ hp
 have EH:∀b,wr.EH b->w0.EH b:=λb hb=>by
  rcases hb with hb|hb
  .exact .inl<|Ch hS.below.size<|hwn▸hb
  .exact(hM b<|hwX▸hb).1
 have hle:HV.le Hc H3:=λr o h=>by have hlt:=HN hS.sub h;rw[Hz.Fj hwv r (by rw[hwn];exact hlt) (λhx=>by have:=(hM r<|hwX▸hx).2;rw[this] at h;cases h)];exact h
 have E9:∀b,b<W.heap.size-> ¬M b->W4.heap[b]? =W.heap[b]? /\H3 b=Hc b:=λb hb hn=>by have h1:=Hz.below.block hwv b (by rw[hwn];exact hb) (by rw[hwX];exact hn);rw[hww] at h1;exact⟨h1,Hz.Fj hwv b (by rw[hwn];exact hb) (by rw[hwX];exact hn)⟩
 have hsz:W.heap.size<=W4.heap.size:=by have:=Hz.below.size;rw[hwn] at this;exact this
 have hos:W4.os=W.os:=by have:=Hz.below.os;rw[hww] at this;exact this
 have hta:W4.tape=W.tape:=by have:=Hz.below.tape;rw[hww] at this;exact this
 have hou:W4.output=W.output:=by have:=Hz.below.output;rw[hww] at this;exact this
 have hdr:H9 W W4:=by have:=Hz.below.drawn;rw[hww] at this;exact this
 have low:∀k,k<w0.n-> ¬w0.X k-> ¬M k:=λk hk hx hm=>by
  rcases(hM k hm).1 with h|h
  .omega
  .exact hx h
 have sZ:∀p∈(N,AS.E0 l rc)::G',∀b,p.2.owns W4 (Ae aD p.1) b↔p.2.owns W4 (Ae a3 p.1) b:=λp hp b=>by
  rcases Am.1 hp with e|hp
  .subst e;exact Iff.rfl
  .rw[KP _ (PI hT hp).2.1]
 refine⟨⟨?_,hS.sz,?_,?_,Hz.sub,?_,?_,Hz.gl⟩,⟨hsz,hos,hta,hou,hdr,hle,E9,Hz.sub⟩,?_⟩
 .have h1:=Hz.nd.tail;rw[atG] at h1;have h2:=hS.nd;rw[hds,K9] at h2⊢;exact h2.both h1
 .exact⟨hos.trans hS.below.os,hta.trans hS.below.tape,hou.trans hS.below.output,Ch hS.below.drawn hdr,Ch hS.below.size hsz,λhv k hk hx=>(E9 k (KA hk hS.below.size)<|low k hk hx).1.trans<|hS.below.block hv k hk hx⟩
 .exact λhv r hr hx=>(E9 r (KA hr hS.below.size)<|low r hr hx).2.trans<|hS.Fj hv r hr hx
 .intro p hp;have h1:=Hz.holds p<|mem p hp
  have hi:p.2.F1=false:=by
   rcases Am.1 hp with e|hp
   .subst e;rfl
   .exact(PI hT hp).2.2.2
  have h2:=AS.S5 (B':=w0) hi h1 λb hb=>EH b<|AS.PT hi h1 hb
  rcases Am.1 hp with e|hp
  .subst e;exact h2
  .let⟨_,hk,hl,_⟩:=PI hT hp;rw[<-KP _ hk];exact AS.PR (λt ht=>(KP t<|hl t ht).symm) h2
 .intro p hp q hq hne b hb Bg;exact Hz.sep p (mem p hp) q (mem q hq) hne b ((sZ p hp b).1 hb)<|(sZ q hq b).1 Bg
 .intro p hp b hb;have h1:=Hz.holds p<|mem p hp
  have hi:p.2.F1=false:=by
   rcases Am.1 hp with e|hp
   .subst e;rfl
   .exact(PI hT hp).2.2.2
  rcases AS.PT hi h1 ((sZ p hp b).1 hb) with h|h
  .exact .inr<|hwn▸h
  .exact .inl<|hwX▸h
def qi{α:Type}{gt:Tmp}{psl:A3 Tmp}{assign body:Code}{enc:α->A3 Ty}{L:A3 α}{o:A9 (A3 α)}(T:A3 Nat)(Ai:σ->Ctx)(KN:A9 Ctx)
 {Bd:(σ->A9 ρ)->α->σ->A9 ρ}{K:σ->A9 ρ}{s0:σ}
 (hm:JS L Bd s0 K=some r)(ho:o=some L)(hrd:w0.rd=none)(hds:w0.ds=[])(hg:look Γ gt=some (.val<|V6 P enc o))(h0:EU Γ ts (Ai s0))
 (hT:∀s,aK N T (Ai s)=true)(hTx:∀G,KN=some G->aK N T G=true)(hps:∀x,(enc x).length=psl.length)(hpN:(psl.all λp=>Nat.blt p N&& !T.contains p)=true)(IV:psl.Nodup)
 (round:∀(wr:Ah P) (Hr:HV) (l:Nat) (rc:Loop) (pv:Nat->AV) (next:σ->A9 ρ) (x:α) (s:σ),wr.rd=some l->Bd next x s=some r->Goal P wr Hr N assign (abH wr Hr N l rc T pv body Ai KN next r) (params psl (enc x)++((N,.E0 l rc)::(pins N T pv++Ai s))))
 (kk:∀s,K s=some r->EN w0 H0 N (Q .normal) (Ai s))(kx:∀G,KN=some G->EN w0 H0 N (Q .ret) G):Goal P w0 H0 N (.rangeFunc (.tmp gt) psl.toArray assign body) Q Γ:=by
 intro a w H hs;have hinv:∀s,∀p∈Ai s,p.2.F1=false:=λs p hp=>(PI (hT s) hp).2.2.2
 have acS:∀s,∀p∈Ai s,p.1≠N:=λs p hp=>Nat.ne_of_lt (PI (hT s) hp).1
 rw[hrd];refine wpIn_rangeFunc ?_;intro fn _;let⟨gf,cap,FD,eg,hcap,X1⟩:=hs.holds _<|BD hg
 let⟨Uw,arR⟩:=X1 L ho;simp only at eg;obtain⟨EA,RX⟩:∃EA:Loop,EA={state:= .ready,pending:=none,fn,tmps:=a.tmps,params:=psl.toArray,assign,body,defers:=w.heap.size}:=⟨_,rfl⟩;obtain⟨W1,hW1⟩:∃W1,(w.alloc<| .deferred<|some []).alloc (.loop EA)=W1:=⟨_,rfl⟩;obtain⟨aD,haD⟩:∃aD:Act,{a with defers:={target:= .collected w.heap.size,args:= #[]}::a.defers}=aD:=⟨_,rfl⟩;have awM:W1.heap.size=w.heap.size+2:=by rw[<-hW1];simp
 have hL1:W1.heap[w.heap.size+1]? =some (.loop EA):=by rw[<-hW1];have:=World.alloc_heap_new (w.alloc<| .deferred<|some []) (.loop EA);rwa [World.size_alloc] at this
 have hK1:W1.heap[w.heap.size]? =some (.deferred<|some []):=by rw[<-hW1];exact(Below.heap_alloc _ _ _ (by simp)).trans<|World.alloc_heap_new w _
 have hHn:∀b,w.heap.size<=b->H b=none:=λb hb=>by cases hh:H b with|none=>rfl|some o=>have:=HN hs.sub hh;omega
 have he:Ext w H W1 H:=by
  have e1:=Ext.alloc hs.sub (w:=w)<| .deferred<|some []
  have e2:=Ext.alloc e1.sub (w:=w.alloc<| .deferred<|some [])<| .loop EA
  rw[hW1] at e2;refine⟨⟨?_,Ch e1.below.drawn e2.below.drawn⟩,HV.le.refl _,λ_ _=>rfl,e2.sub⟩;have h1:=e1.below.toBelow;have h2:=e2.below.toBelow;exact h1.trans (h2.mono (by simp))
 have hsD:Sat w0 H0 N ((N,.E0 (w.heap.size+1) EA)::Ai s0) aD W1 H:=by
  have hs1:=fi (hs.weaken h0.sub) he;have hmk:Marks w0 W1 H (aD.defers++w0.ds):=by
   rw[<-haD];refine⟨⟨w.heap.size,rfl,λ_=>hs.below.size,hK1,hHn _<|BQ _,?_⟩,hs1.nd⟩;intro e he1 he2;have:∀{l:A3 Deferred},Marks w0 w H l->e∈l->False:=by
    intro l
    induction l with
    |nil=>intro _ h;cases h
    |cons x l ih=>
     rintro⟨⟨D,ex,_,g2,_,_⟩,gr⟩ h;rcases Am.1 h with h|h
     .subst h;rw[ex] at he2;have hD:D=w.heap.size:=by injection he2 with h _;injection h
      subst hD;have:=lt_of_heap g2;omega
     .exact ih gr h
   exact this hs.nd he1
  have KT:Sat w0 H0 N (Ai s0) aD W1 H:=by rw[<-haD] at hmk⊢;exact hs1.defs hmk
  refine⟨KT.nd,KT.sz,KT.below,KT.Fj,KT.sub,?_,?_,KT.gl⟩
  .intro p hp;rcases Am.1 hp with e|hp
   .subst e;exact⟨hL1,hHn _ (by omega),.inl (Ch hs.below.size (by omega))⟩
   .exact KT.holds p hp
  .have key:∀q∈Ai s0,¬q.2.owns W1 (Ae aD q.1) (w.heap.size+1):=λq hq hb=>by
    have Bg:q.2.owns W1 (Ae a q.1) (w.heap.size+1):=by rw[<-haD] at hb;exact hb
    have:=(AS.J9 ((hs.weaken h0.sub).holds q hq)<|(AS.gF he ((hs.weaken h0.sub).holds q hq) _).1 Bg).1;omega
   intro p hp q hq hne b hb Bg;rcases Am.1 hp with e|hp<;>rcases Am.1 hq with e'|hq
   .subst e;subst e';exact hne rfl
   .subst e;cases hb;exact key q hq Bg
   .subst e';cases Bg;exact key p hp hb
   .exact KT.sep p hp q hq hne b hb Bg
 have hDl:∀D,({target:= .collected D,args:= #[]}:Deferred)∈aD.defers++w0.ds->D<W1.heap.size:=by
  intro D hD;have:∀{l:A3 Deferred},Marks w0 W1 H l->({target:= .collected D,args:= #[]}:Deferred)∈l->D<W1.heap.size:=by
   intro l
   induction l with
   |nil=>intro _ h;cases h
   |cons x l ih=>
    rintro⟨⟨D',ex,_,g2,_,_⟩,gr⟩ h;rcases Am.1 h with h|h
    .rw[ex] at h;have hD:D=D':=by injection h with h _;injection h
     subst hD;exact lt_of_heap g2
    .exact ih gr h
  exact this hsD.nd hD
 have hn1:w0.n<=W1.heap.size:=by have:=hs.below.size;omega
 have kQ:∀s,∀p∈(N,AS.E0 (w.heap.size+1) EA)::Ai s,p.2.F1=false:=λs p hp=>by
  rcases Am.1 hp with e|hp
  .subst e;rfl
  .exact hinv s p hp
 have b9:∃rcx:Loop,rcx={EA with state:= .done,pending:=some .ret}:=⟨_,rfl⟩;let⟨rcx,b9⟩:=b9;have acx:∀G,KN=some G->∀p∈(N,AS.E0 (w.heap.size+1) rcx)::G,p.2.F1=false:=λG hG p hp=>by
  rcases Am.1 hp with e|hp
  .subst e;rfl
  .exact(PI (hTx G hG) hp).2.2.2
 let J:σ->Inv->Prop:=λs I=>∃M,I=kL w0 H0 N ((N,.E0 (w.heap.size+1) EA)::Ai s) aD W1.heap.size M (kQ s) hn1 hDl
 let Jx:Inv->Prop:=λI=>∃G,∃hG:KN=some G,∃M,I=kL w0 H0 N ((N,.E0 (w.heap.size+1) rcx)::G) aD W1.heap.size M (acx G hG) hn1 hDl
 refine⟨w.heap.size+1,[{target:= .collected w.heap.size,args:= #[]}],W1,{target:= .fn (.func gf) cap,args:= #[.func (.yield<|w.heap.size+1) #[] #[]]},W1,gf,#[.func (.yield<|w.heap.size+1) #[] #[]]++cap,W1,?_,?_,?_,?_,(λe=>by cases e),?_⟩
 .rw[<-hW1,RX];exact run_enterLoop_outer _ _ _ _ _
 .have eg':a.eval (.tmp gt)= .func (.func gf) #[] cap:=eg;simp only[resolve,eg'];simp[go_sem]
 .intro f' _;trivial
 .have:=PC Uw (#[.func (.yield<|w.heap.size+1) #[] #[]]++cap) W1;simp only[invoke];exact this
 ·
  have ec:(#[.func (.yield<|w.heap.size+1) #[] #[]]++cap:BG AV)=(.func (.yield<|w.heap.size+1) #[] #[]::cap.toList).toArray:=by apply Array.ext';simp
  rw[ec];refine CallsIn.acD (abr<|arR Bd K s0 r hm (w.heap.size+1) J Jx W1 H cap.toList _ hsD.sub hsD.gl (Yw (HV.le.refl _) hcap) ⟨λb=>∃p∈(N,AS.E0 (w.heap.size+1) EA)::Ai s0,p.2.owns W1 (Ae aD p.1) b,rfl⟩ rfl ⟨hsD,λb=>Iff.rfl⟩ ?_) ?_
  ·
   rintro next x s I W Hc vs hBd ⟨M,rfl⟩ _ ⟨hS,hM⟩ BI hgl hvs
   have hM':∀b,M b->w0.EH b/\Hc b=none:=λb hb=>by let⟨p,hp,hb⟩:=(hM b).1 hb;exact⟨AS.PT (kQ s p hp) (hS.holds p hp) hb,(AS.J9 (hS.holds p hp) hb).2.1⟩
   let⟨hl1,hl2,hl3⟩:=hS.holds (N,.E0 (w.heap.size+1) EA) (by simp);have hvl:vs.length=psl.length:=by rw[SO hvs,hps x]
   have hy:=run_yield (P:=P) (args:=vs.toArray) hl1 (by rw[RX];simpa using hvl);refine⟨EA.fn,_,EA.assign,EA.body,hy,roundIn_of_wpIn trivial ?_⟩;have ea:EA.assign=assign:=by rw[RX]
   have eb:EA.body=body:=by rw[RX]
   have et:((EA.params.zip vs.toArray).foldl (λtmps (t,a)=>tmps.setIfInBounds t a) EA.tmps)=((psl.zip vs).foldl (λt (p,v)=>t.setIfInBounds p v) aD.tmps):=by rw[RX,<-haD];simp
   rw[ea,eb,et];obtain⟨wr,hwr⟩:∃wr:Ah P,wr=⟨W,M,some<|w.heap.size+1,false,aD.defers,0,FV _,λ_ _=>FV _⟩:=⟨_,rfl⟩;have tD:wr.rd=some (w.heap.size+1):=by rw[hwr]
   have Kz:Sat wr Hc N ((N,.E0 (w.heap.size+1) EA)::Ai s) {aD with defers:=[]} W Hc:=by
    refine⟨?_,hS.sz,?_,λ_ _ _ _=>rfl,hS.sub,?_,hS.sep,hS.gl⟩
    .rw[hwr];show Marks _ W Hc ([]++aD.defers);have h2:=hS.nd;rw[hds,K9] at h2;have:∀{l:A3 Deferred},Marks w0 W Hc l->Marks (⟨W,M,some<|w.heap.size+1,false,aD.defers,0,FV _,λ_ _=>FV _⟩:Ah P) W Hc l:=by
      intro l
      induction l with|nil=>exact λ_=>trivial|cons x l ih=>exact λ⟨⟨D,e,_,g2,g3,g4⟩,gr⟩=>⟨⟨D,e,(λh=>by cases h),g2,g3,g4⟩,ih gr⟩
     exact this h2
    .rw[hwr];exact⟨rfl,rfl,rfl,BQ _,BQ _,λ_ _ _ _=>rfl⟩
    .intro p hp;refine AS.PR (a:=aD) (λ_ _=>rfl)<|AS.S5 (kQ s p hp) (hS.holds p hp) λb hb=>?_
     rw[hwr];exact .inr<|(hM b).2 ⟨p,hp,hb⟩
   have hr1:Sat wr Hc N (pins N T (λt=>Ae aD t)++((N,.E0 (w.heap.size+1) EA)::Ai s)) {aD with defers:=[]} W Hc:=by
    refine Kz.aoO λp hp=>?_
    obtain⟨t,ht,rfl⟩:=BM.1 hp;exact⟨rfl,rfl⟩
   let⟨G,hG,Hi⟩:=xG (ps:=psl) (τs:=enc x) (vs:=vs) hvs (hps x).symm (λp hp=>by
    have h1:=Dr.1 hpN p hp;simp only[C9,GM] at h1;have hpT:p∉T:=λh=>by have:=UQ.2 h;rw[h1.2] at this;cases this
    refine⟨Ad h1.1,Dr.2 λq hq=>?_⟩;have hlt:=Ad h1.1;simp only[C9,MU,ne_eq,GM];rcases CJ.1 hq with hq|hq
    .obtain⟨t,ht,rfl⟩:=BM.1 hq;refine⟨by simp only;omega,?_⟩;simp only[AS.CD,List.contains_cons,List.contains_nil,iF,iX,ne_eq];exact λe=>hpT<|e▸ht
    .rcases Am.1 hq with e|hq
     .subst e;exact⟨by simp only;omega,rfl⟩
     .let⟨_,k2,k3,_⟩:=PI (hT s) hq;refine⟨λe=>hpT<|e▸k2,?_⟩;cases hc:q.2.CD.contains p
      .rfl
      .exact absurd (k3 p<|UQ.1 hc) hpT) IV hr1
   have hr3:Sat wr Hc N (params psl (enc x)++((N,.E0 (w.heap.size+1) EA)::(pins N T (λt=>Ae aD t)++Ai s))) _ W Hc:=Hi.weaken λq hq=>hG q (by
    simp only[CJ,Am] at hq⊢;rcases hq with h|h|h|h
    .exact .inl h
    .exact .inr<| .inr<| .inl h
    .exact .inr<| .inl h
    .exact .inr<| .inr<| .inr h)
   have ad7:=round wr Hc (w.heap.size+1) EA (λt=>Ae aD t) next x s tD hBd _ W Hc hr3
   rw[tD] at ad7;refine WE (F:=Fx<|some<|w.heap.size+1) ad7 ?_;rintro e a1 W2 hq;cases e with
   |normal=>
    let⟨Γa,H2,hS2,hdk,hgo⟩:=hq;have hb0:=hS2.holds (N,.E0 (w.heap.size+1) EA) (by simp);refine⟨_,run_beginRound hb0.1 (by rw[RX]),?_⟩;have ad9:=ZD (l:=w.heap.size+1) (rc:=EA) (rc':=busy EA) hS2 (k:=N) (by simp);have edk:BL N ((N,AS.E0 (w.heap.size+1) EA)::Γa)=Γa:=by
     have:Nat.beq N N=true:=by simp
     simp only[BL,this,BX];exact hdk
    rw[edk] at ad9;have acW:=hgo a1 _ H2 ad9;rw[tD] at acW;refine WE (F:=Fx<|some<|w.heap.size+1) acW ?_;rintro e a3 W3 hq3;cases e with
    |normal=>
     let⟨s',HR,H3,hS3⟩:=hq3;have hb3:=hS3.holds (N,.E0 (w.heap.size+1)<|busy EA) (by simp);have Hz:=ZD (l:=w.heap.size+1) (rc:=busy EA) (rc':=EA) hS3 (k:=N) (by simp);have tX:BL N ((N,AS.E0 (w.heap.size+1)<|busy EA)::(pins N T (λt=>Ae aD t)++Ai s'))=pins N T (λt=>Ae aD t)++Ai s':=by
      have:Nat.beq N N=true:=by simp
      simp only[BL,this,BX];refine qm λp hp=>?_
      rcases CJ.1 hp with hp|hp
      .obtain⟨t,_,rfl⟩:=BM.1 hp;simp only;omega
      .exact acS s' p hp
     rw[tX] at Hz;let⟨hB1,hB2,hB3⟩:=yu hS hds hrd hM' wr hwr Hz<|hT s'
     have erc:({busy EA with state:=if(none:A9 Code).isNone then .ready else .done,pending:=none}:Loop)=EA:=by rw[RX];rfl
     refine⟨_,_,run_endRound none hb3.1,H3,kL w0 H0 N ((N,.E0 (w.heap.size+1) EA)::Ai s') aD W1.heap.size (λb=>∃p∈(N,AS.E0 (w.heap.size+1) EA)::Ai s',p.2.owns (W3.putObj (w.heap.size+1)<| .loop EA) (Ae aD p.1) b) (kQ s') hn1 hDl,rfl,?_,?_,?_,.inl ⟨rfl,s',HR,_,rfl⟩⟩
     .rw[erc];exact⟨hB1,λb=>Iff.rfl⟩
     .rw[erc];exact hB2
     .rintro b ⟨p,hp,hb⟩;exact hB3 p hp b hb
    |ret=>
     let⟨G,hG,H3,hS3⟩:=hq3;have hb3:=hS3.holds (N,.E0 (w.heap.size+1)<|busy EA) (by simp);have Hz:=ZD (l:=w.heap.size+1) (rc:=busy EA) (rc':=rcx) hS3 (k:=N) (by simp);have tX:BL N ((N,AS.E0 (w.heap.size+1)<|busy EA)::(pins N T (λt=>Ae aD t)++G))=pins N T (λt=>Ae aD t)++G:=by
      have:Nat.beq N N=true:=by simp
      simp only[BL,this,BX];refine qm λp hp=>?_
      rcases CJ.1 hp with hp|hp
      .obtain⟨t,_,rfl⟩:=BM.1 hp;simp only;omega
      .exact Nat.ne_of_lt (PI (hTx G hG) hp).1
     rw[tX] at Hz;let⟨hB1,hB2,hB3⟩:=yu hS hds hrd hM' wr hwr Hz<|hTx G hG
     have erc:({busy EA with state:=if(some Code.ret:A9 Code).isNone then .ready else .done,pending:=some .ret}:Loop)=rcx:=by rw[b9];rfl
     refine⟨_,_,run_endRound (some .ret) hb3.1,H3,kL w0 H0 N ((N,.E0 (w.heap.size+1) rcx)::G) aD W1.heap.size (λb=>∃p∈(N,AS.E0 (w.heap.size+1) rcx)::G,p.2.owns (W3.putObj (w.heap.size+1)<| .loop rcx) (Ae aD p.1) b) (acx G hG) hn1 hDl,rfl,?_,?_,?_,.inr ⟨rfl,G,hG,_,rfl⟩⟩
     .rw[erc];exact⟨hB1,λb=>Iff.rfl⟩
     .rw[erc];exact hB2
     .rintro b ⟨p,hp,hb⟩;exact hB3 p hp b hb
    |exit id=>exact hq3.elim|goto t=>exact hq3.elim|panic ch=>exact hq3.elim|outgrown=>exact hq3.elim
   |ret=>exact hq.elim|exit id=>exact hq.elim|goto t=>exact hq.elim|panic ch=>exact hq.elim|outgrown=>exact hq.elim
  ·
   rintro e w3 ⟨⟨v,rfl⟩,H',I',hp,aw7,(⟨s,hK,M,rfl⟩|⟨G,hG,M,rfl⟩)⟩
   .let⟨hS,_⟩:=hp;let⟨hl1,_,_⟩:=hS.holds (N,.E0 (w.heap.size+1) EA) (by simp);have hel:=run_endLoop (P:=P) hl1 (by rw[RX];simp);have epe:EA.pending=none:=by rw[RX]
    rw[epe] at hel;refine⟨none,_,hel,?_⟩;have h5:=ZD (l:=w.heap.size+1) (rc:=EA) (rc':={EA with state:= .exhausted,pending:=none}) hS (k:=N) (by simp);have h6:Sat w0 H0 N (Ai s) aD (w3.putObj (w.heap.size+1)<| .loop {EA with state:= .exhausted,pending:=none}) H':=h5.weaken λq hq=>by
     refine Br _<|PW ?_<|acS s q hq
     exact Br _ hq
    have:=kk s hK aD _ H' h6;rw[<-haD] at this;exact this
   .let⟨hS,_⟩:=hp;let⟨hl1,_,_⟩:=hS.holds (N,.E0 (w.heap.size+1) rcx) (by simp);have hel:=run_endLoop (P:=P) hl1 (by rw[b9];simp);have epe:rcx.pending=some .ret:=by rw[b9]
    rw[epe] at hel;refine⟨some .ret,_,hel,?_⟩;refine wpIn_ret ?_;have h5:=ZD (l:=w.heap.size+1) (rc:=rcx) (rc':={rcx with state:= .exhausted,pending:=some .ret}) hS (k:=N) (by simp);have h6:Sat w0 H0 N G aD (w3.putObj (w.heap.size+1)<| .loop {rcx with state:= .exhausted,pending:=some .ret}) H':=h5.weaken λq hq=>by
     refine Br _<|PW ?_<|Nat.ne_of_lt (PI (hTx G hG) hq).1
     exact Br _ hq
    have:=kx G hG aD _ H' h6;rw[<-haD] at this;exact this
end
section
variable[D:DR]
def Ah.iter(P:CP)(w:AR):Ah P:=⟨w,KR,none,true,[],w.heap.size,BQ _,λ_ h=>h.elim⟩
end
section
variable[D:DR]
variable{P:Program}{w0:Ah P}{H0:HV}{N:Nat}{Q:Exit->Act->World->Prop}{Γ Aq:Ctx}
variable{σ ρ:Type}{r:ρ}{J:σ->Inv->Prop}{I:Inv}{Jx:Inv->Prop}{α:Type}{enc:α->A3 Ty}{ts:A3 Nat}{fn:Func}{s:σ}{ops:BG Oper}{xs:A3 CR}{ty:Ap}{pos:String}{af:BG Edge}{K:σ->A9 ρ}{a:Act}{w:AR}{H:HV}{Bd:(σ->A9 ρ)->α->σ->A9 ρ}{l:Nat}{next:σ->A9 ρ}{x:α}{t dy dn:Nat}{F5:BG Ap}{KK tb:Ap}{pos':String}{Lg:BG Edge}{Gk:Ctx}
def kX{σ ρ:Type}(K:σ->A9 ρ)(r:ρ)(J:σ->Inv->Prop)(Jx:Inv->Prop)(e:Ending)(w':AR):Prop:=(∃v,e= .returned v)/\∃H' I',I'.p w' H'/\(∀r o,H' r=some o->w'.heap[r]? =some o)/\((∃s,K s=some r/\J s I')\/Jx I')
def sX(P:CP)(fn:Func)(R:Ending->AR->Prop):Exit->Act->AR->Prop:=bodyPostM (Fx none) 0 P fn R
def Sn(l:Nat):Ty:=TEq (.func (.yield l) #[] #[]) rfl
def yO(hX:(w0.ds,w0.rd)=([],none))(hr:fn.results= #[])(hI:look Γ N=some (.inv I))(hK:(∃s,K s=some r/\J s I)\/Jx I)
 (hs:Sat w0 H0 N Γ a w H):LeavesInM (Fx none) 0 P fn a.tmps (kX K r J Jx) a.defers .returning w:=by
 refine Vd (congrArg (λp=>p.1) hX) (congrArg (λp=>p.2) hX) (a:=a) (ds:=a.defers) hs λw H hs=>?_
 refine⟨.tuple #[],?_,⟨_,rfl⟩,H,I,(hs.holds _<|BD hI).1,hs.sub,hK⟩;rw[YZ (rs:=[]) (by rw[hr])];simp
def abv(hX:(w0.ds,w0.rd)=([],none))(hr:fn.results= #[])(hI:look Γ N=some (.inv I))(hK:K s=some r)(hJ:J s I):EN w0 H0 N (λa w=>sX P fn (kX K r J Jx) .normal a w) Γ:=λ_ _ _ hs=>yO hX hr hI (.inl ⟨s,hK,hJ⟩) hs
def ab4(hX:(w0.ds,w0.rd)=([],none))(hr:fn.results= #[])(hI:look Γ N=some (.inv I))(hJ:Jx I):EN w0 H0 N (λa w=>sX P fn (kX K r J Jx) .ret a w) Γ:=λ_ _ _ hs=>yO hX hr hI (.inr hJ) hs
theorem xS{gf:FuncId}{c:Code}{FD:A3 Ty}{L:A3 α}{N:Nat}(hf:P.funcs[gf]? =some fn)(hb:fn.body=some c)(hN:fn.ntmps=N)(hn:FD.length+1<=N)(hc:Gq P gf=true)
 (h:∀{σ ρ:Type} (Bd:(σ->A9 ρ)->α->σ->A9 ρ) (K:σ->A9 ρ) (s0:σ) (r:ρ),JS L Bd s0 K=some r->∀(l:Nat) (J:σ->Inv->Prop) (Jx:Inv->Prop) (w:AR) (H:HV) (I0:Inv),J s0 I0->I0.n=w.heap.size->Zy P l enc Bd r J Jx w.heap.size->Goal P (Ah.iter P w) H N c (sX P fn<|kX K r J Jx) ((N,.inv I0)::Hd 0 (Sn l::FD))):Z5 P gf FD enc L:=by
 subst hN;refine⟨hc,λBd K s0 r hm l J Jx w H cvs I0 sub gl Az hJ hI hIp hy=>?_⟩;have tJ:Ee H (Sn l::FD) (.func (.yield l) #[] #[]::cvs):=⟨_,_,rfl,rfl,Az⟩;have hS:=yV (P:=P) (n:=fn.ntmps) sub gl tJ (by simpa using hn);refine(callsIn_wide (n:=0)).1<|callsIn_of_wp_marks (F:=Fence.wide) hf hb trivial<|h Bd K s0 r hm l J Jx w H I0 hJ hI hy _ w H ?_
 have FJ:∀p∈Hd 0 (Sn l::FD),p.2.F1=false/\∀v b,¬p.2.owns w v b:=by
  have:∀(l:A3 Ty) (i:Nat),∀p∈Hd i l,p.2.F1=false:=by
   intro l
   induction l with
   |nil=>intro i p hp;simp[Hd] at hp
   |cons τ l ih=>
    intro i p hp;simp[Hd,Am] at hp;rcases hp with e|hp
    .subst e;rfl
    .exact ih _ p hp
  exact λp hp=>⟨this _ _ p hp,λv b=>o5 p hp⟩
 refine⟨trivial,hS.sz,⟨rfl,rfl,rfl,BQ _,BQ _,λ_ _ _ _=>rfl⟩,λ_ _ _ _=>rfl,hS.sub,?_,?_,hS.gl⟩
 .intro p hp;rcases Am.1 hp with e|hp
  .subst e;exact⟨hIp,hI⟩
  .exact AS.S5 (FJ p hp).1 (hS.holds p hp) λb hb=>absurd hb<|(FJ p hp).2 _ b
 .intro p hp q hq hne b hb Bg;rcases Am.1 hp with e|hp
  .grind
  .grind
theorem aiu{w':AR}{H':HV}{k:Nat}{I':Inv}(hv:w0.Iv=true)(G0:w0.lo=w0.n)(hs:Sat w0 H0 N Γ a w H)(hk:(k,.inv I)∈Γ)(FJ:∀q∈BL k Γ,q.2.F1=false)
 (hy:RN I.M w H w' H')(hI:I'.n=w0.n)(hp:I'.p w' H')(hM:∀b,I'.M b->I.M b\/w.heap.size<=b):Sat w0 H0 N ((k,.inv I')::BL k Γ) a w' H':=by
 have hIk:=hs.holds _ hk;have other:∀q∈BL k Γ,∀b,q.2.owns w (Ae a q.1) b-> ¬I.M b:=λq hq b hb hm=>hs.sep q (DO q hq).1 _ hk (DO q hq).2 b hb hm
 have far:∀q∈BL k Γ,∀b,q.2.owns w (Ae a q.1) b->w'.heap[b]? =w.heap[b]? /\H' b=H b:=λq hq b hb=>hy.E9 b (AS.J9 (hs.holds q (DO q hq).1) hb).1 (other q hq b hb)
 have key:∀q∈BL k Γ,q.2.holds w0 a w' H' (Ae a q.1)/\∀b,q.2.owns w' (Ae a q.1) b↔q.2.owns w (Ae a q.1) b:=λq hq=>by refine AS.Vl (n:=0) (hs.holds q (DO q hq).1) (λhi=>by rw[FJ q hq] at hi;cases hi) ?_;exact⟨hy.size,hy.os,hy.tape,hy.output,hy.drawn,hy.le,λb _ h=>h.elim (λh=>by omega)<|λh=>(far q hq b h).1,λb _ h=>h.elim (λh=>by omega)<|λh=>(far q hq b h).2,hy.sub⟩
 refine⟨?_,hs.sz,?_,λh=>by(rw[hv] at h;cases h),hy.sub,?_,?_,hs.gl.mono hy.le⟩
 .refine hs.nd.kept λD _ h1 h2=>?_
  have hn: ¬I.M D:=λhm=>by let⟨_,_,o,ho,Jt⟩:=I.lt hIk.1 hm;rw[h1] at ho;cases ho;exact Jt
  have:=hy.E9 D (lt_of_heap h1) hn;exact⟨by rw[this.1];exact h1,by rw[this.2];exact h2⟩
 .exact⟨hy.os.trans hs.below.os,hy.tape.trans hs.below.tape,hy.output.trans hs.below.output,Ch hs.below.drawn hy.drawn,Ch hs.below.size hy.size,λh=>by rw[hv] at h;cases h⟩
 .intro q hq;rcases Am.1 hq with e|hq
  .subst e;exact⟨hp,by rw[G0];exact hI⟩
  .grind
 .have low:∀q∈BL k Γ,∀b,q.2.owns w' (Ae a q.1) b-> ¬I'.M b:=λq hq b hb hm=>by
   have hb:=((key q hq).2 b).1 hb;rcases hM b hm with h|h
   .grind
   .have:=(AS.J9 (hs.holds q (DO q hq).1) hb).1;omega
  intro q hq r hr hne b hb Bg;rcases Am.1 hq with e|hq<;>rcases Am.1 hr with e'|hr
  .grind
  .subst e;exact low r hr b Bg hb
  .subst e';exact low q hq b hb Bg
  .exact hs.sep q (DO q hq).1 r (DO r hr).1 hne b (((key q hq).2 b).1 hb)<|((key r hr).2 b).1 Bg
def JI.aoe{l:A3 Oper}(h:JI P w0 N ops l Γ Aq):Jf l=true->∀(l2:A3 Oper) (H0:HV) (a:Act) (w:AR) (H:HV),Sat w0 H0 N Γ a w H->∀(Q:Exit->Act->AR->Prop),(∀a' w' H',Sat w0 H0 N Aq a' w' H'->wpListIn (Fx w0.rd) 0 P ops Q l2 a' w')->wpListIn (Fx w0.rd) 0 P ops Q (l++l2) a w:=by
 induction h with
 |done=>exact λ_ _ _ _ _ H hs _ k=>k _ _ H hs|fin h=>exact λ_ _ _ _ _ H hs _ k=>k _ _ H<|hs.weaken h.sub
 | @cons _ _ _ o l h _ ih=>
  intro Az l2 H0 a w H hs Q k;have Ex:=h w0 H0 a w H hs (wpListIn (Fx w0.rd) 0 P ops Q<|l++l2) Q λa' w' H' DQ=>ih (xN Az) l2 H0 a' w' H' DQ Q k
  show wpListIn _ _ _ _ _ (o::(l++l2)) a w;unfold wpListIn;split
  .rename_i hw;rw[if_pos hw] at Ex;exact ZI (nk Az (by simp)) Ex
  .rename_i hw;rw[if_neg hw] at Ex;exact⟨λ_ _=>trivial,Ex⟩
 |ghost h _ ih=>intro Az l2 H0 a w H hs Q k;let⟨H',DQ⟩:=h H0 a w H hs;exact ih Az l2 H0 a w H' DQ Q k
def yOk(N dy dn:Nat)(Γ:Ctx):Bool:=Γ.all λp=>p.1 !=N&&p.1 !=dy&&p.1 !=dn&&p.2.CD.all (λt=>t !=dy&&t !=dn)&& !p.2.F1
theorem xB
 {Q:Exit->Act->AR->Prop}
 (hv:(w0.Iv,w0.rd,w0.X)=(true,none,KR))(G0:w0.lo=w0.n)(hy:Zy P l enc Bd r J Jx w0.n)
 (hm:Bd next x s=some r)(hJ:J s I)(ht:look Γ t=some (.val<|Sn l))(ha:AP Γ xs (enc x))(hI:look Γ N=some (.inv I))(Kr:EU Γ ts Gk)(Az:yOk N dy dn Gk=true)(hdy:dy<N)(hdn:dn<N)
 (kt:∀s' I',next s'=some r->J s' I'->EN w0 H0 N (Q .normal) ((dn,.val<|Ay false)::(N,.inv I')::Gk))(kf:∀I',Jx I'->EN w0 H0 N (Q .normal) ((dn,.val<|Ay true)::(N,.inv I')::Gk))
 (hs:Sat w0 H0 N Γ a w H):wpListIn (Fx w0.rd) 0 P ops Q [⟨some dy,.call ⟨.value<| .tmp t,xs.toArray,F5⟩,ty,pos,af,none⟩,⟨some dn,.unOp .not tb<| .tmp dy,KK,pos',Lg,none⟩] a w:=by
 obtain⟨hv1,hv2,hv3⟩:w0.Iv=true/\w0.rd=none/\w0.X=KR:=by grind
 have e1:a.eval (.tmp t)= .func (.yield l) #[] #[]:=hs.holds _<|BD ht
 have hI0:=hs.holds _<|BD hI
 have hIn:I.n=w0.n:=by rw[<-G0];exact hI0.2
 let⟨fn,tmps,assign,body,FC,apY⟩:=hy next x s I w H (xs.map a.eval) hm hJ hIn hI0.1 hs.sub hs.gl<|ha.ok hs
 unfold wpListIn;have hw:Region.wanted (⟨some dy,.call ⟨.value<| .tmp t,xs.toArray,F5⟩,ty,pos,af,none⟩:Oper) (yielded ops a.tmps)=true:=rfl;rw[if_pos hw];refine⟨λ_ _=>trivial,?_⟩;rw[Oper.semAt_eq _ _ _ (by intro c e;cases e)];have e0:execOp a.eval ⟨some dy,.call ⟨.value<| .tmp t,xs.toArray,F5⟩,ty,pos,af,none⟩=Instr.yield l (#[]++xs.toArray.map a.eval++ #[]):=by
  simp[execOp,resolve,e1,Deferred.ofValue,pure_bind]
  rfl
 have e2:(#[]++xs.toArray.map a.eval++ #[])=(xs.map a.eval).toArray:=by simp
 rw[e0,e2,FC];refine⟨(λe=>by cases e),?_⟩;rw[hv2];refine RoundIn.mono apY ?_;rintro e w' ⟨H',I',auV,auU,arF,hM,arn⟩;have awS:∀q∈Gk,q∈BL N Γ:=λq hq=>by have h1:=Dr.1 Az q hq;simp[C9,MU,ne_eq] at h1;exact PW (Kr.sub q hq) h1.1.1.1.1
 have hinv:∀q∈BL N ((N,.inv I)::Gk),q.2.F1=false:=λq hq=>by
  have hq':=DO q hq;rcases Am.1 hq'.1 with e|h
  .grind
  .have h1:=Dr.1 Az q h;simp[C9,GM] at h1;exact h1.2
 have hs1:Sat w0 H0 N ((N,.inv I)::Gk) a w H:=hs.weaken λq hq=>by
  rcases Am.1 hq with e|h
  .subst e;exact BD hI
  .exact Kr.sub q h
 have KT:=aiu hv1 G0 hs1 (k:=N) (by simp) hinv arF auV auU hM;have hfr:∀d,(d=dy\/d=dn)->Jc d ((N,.inv I')::Gk)=true:=by
  intro d hd;simp only[Jc,OU,C9,Dr,MU,ne_eq];refine⟨⟨by rcases hd with h|h<;>subst h<;>omega,by simp[AS.CD]⟩,λq hq=>?_⟩;have h1:=Dr.1 Az q hq;simp[C9,MU,ne_eq,Dr] at h1;let⟨⟨⟨⟨h2,h3⟩,h4⟩,h5⟩,h6⟩:=h1;refine⟨by rcases hd with h|h<;>subst h<;>assumption,?_⟩;simp[GM,qb,Ih];intro hm;have:=h5 d hm;rcases hd with h|h<;>subst h
  .exact this.1 rfl
  .exact this.2 rfl
 have hs3:Sat w0 H0 N ((N,.inv I')::Gk) a w' H':=KT.weaken λq hq=>by
  rcases Am.1 hq with e|h
  .subst e;simp
  .refine Br _ (PW (Br _ h) ?_);have h1:=Dr.1 Az q h;simp[C9,MU,ne_eq] at h1;exact h1.1.1.1.1
 have fin:∀b:Bool,e= .returned (.bool b)->EN w0 H0 N (Q .normal) ((dn,.val<|Ay !b)::(N,.inv I')::Gk)->(match e with
   | .returned v=>wpListIn (Fx none) 0 P ops Q [⟨some dn,.unOp .not tb<| .tmp dy,KK,pos',Lg,none⟩] (a.put (some dy) v) w'| .panicked chain=>Q (.panic chain) a w'
   | .outgrown=>LetsOut Q):=by
  intro b eb kk;subst eb;have hs4:=QV hs3 hdy (hfr dy<| .inl rfl) (s:= .val<|Ay b) (v:= .bool b) (by simp[AS.CD]) rfl<|λc h=>h.elim
  have KX:JI P w0 N ops [⟨some dn,.unOp .not tb<| .tmp dy,KK,pos',Lg,none⟩] ((dy,.val<|Ay b)::(N,.inv I')::Gk) ((dn,.val<|Ay !b)::del dn ((dy,.val<|Ay b)::(N,.inv I')::Gk)):=JI.cons (Step.over (Dh (Arg.t (t:=dy) (by simp[look]))) rfl rfl hdn rfl) JI.done
  have:=KX.sound rfl H0 _ w' H' hs4 Q (λa' w' H' DQ=>kk a' w' H' (DQ.weaken λq hq=>by
   rcases Am.1 hq with e|h
   .subst e;simp
   .refine Br _ (SR (Br _ h) ?_ ?_)
    .exact(YU (hfr dn<| .inr rfl) q h).1
    .exact(YU (hfr dn<| .inr rfl) q h).2))
  rw[hv2] at this;exact this
 rcases arn with⟨rfl,s',HR,hJ'⟩|⟨rfl,hJ'⟩
 .grind
 .grind
def aoA
 {l1:A3 Oper}{id:Nat}{GC:Ctx}
 (hv:(w0.Iv,w0.rd,w0.X)=(true,none,KR))(G0:w0.lo=w0.n)(hy:Zy P l enc Bd r J Jx w0.n)
 (hm:Bd next x s=some r)(hJ:J s I)(tH:ops=List.toArray (l1++([⟨some dy,.call ⟨.value<| .tmp t,xs.toArray,F5⟩,ty,pos,af,none⟩,⟨some dn,.unOp .not tb<| .tmp dy,KK,pos',Lg,none⟩]:A3 Oper)))(tI:Jf l1=true)(KX:JI P w0 N ops l1 Γ GC)
 (ht:look GC t=some (.val<|Sn l))(ha:AP GC xs (enc x))(hI:look GC N=some (.inv I))(Kr:EU GC ts Gk)(Az:yOk N dy dn Gk=true)(hdy:dy<N)(hdn:dn<N)
 (kt:∀s' I',next s'=some r->J s' I'->EN w0 H0 N (Q .normal) ((dn,.val<|Ay false)::(N,.inv I')::Gk))(kf:∀I',Jx I'->EN w0 H0 N (Q .normal) ((dn,.val<|Ay true)::(N,.inv I')::Gk)):Goal P w0 H0 N (.region id ops false) Q Γ:=by
 subst tH;exact λa w H hs=>wpIn_region_lit<|KX.aoe tI _ H0 a w H hs Q λa' w' H' DQ=>xB hv G0 hy hm hJ ht ha hI Kr Az hdy hdn kt kf DQ
def alQ
 {id k:Nat}{GC:Ctx}{tsr:A3 Nat}{S:A3 Ctx}
 (hv:(w0.Iv,w0.rd,w0.X)=(true,none,KR))(G0:w0.lo=w0.n)(hy:Zy P l enc Bd r J Jx w0.n)
 (hm:Bd next x s=some r)(hJ:J s I)(kl:A3 (A3<|Nat×A3 Nat))(L:A3 Nat)(av Dw:A3 (A3 Nat))(Dv:A3 Bool)(hmx:P.follows .mixedOrders=true)(hc:(O2 ops av&&TJ k kl Dw Dv L av&&Qu ops k av)=true)
 (tI:Jf (ops.toList.take k)=true)(hp:Ev P N ops Γ [] (ops.toList.take k) Dw Dv S)(Ju:S.reverse.map Kp=kl)(hL:OZ Γ=L)(hsl:EU (S.flatten++Γ) ts GC)
 (tH:ops.toList.drop k=[⟨some dy,.call ⟨.value<| .tmp t,xs.toArray,F5⟩,ty,pos,af,none⟩,⟨some dn,.unOp .not tb<| .tmp dy,KK,pos',Lg,none⟩])
 (ht:look GC t=some (.val<|Sn l))(ha:AP GC xs (enc x))(hI:look GC N=some (.inv I))(Kr:EU GC tsr Gk)(Az:yOk N dy dn Gk=true)(hdy:dy<N)(hdn:dn<N)
 (kt:∀s' I',next s'=some r->J s' I'->EN w0 H0 N (Q .normal) ((dn,.val<|Ay false)::(N,.inv I')::Gk))(kf:∀I',Jx I'->EN w0 H0 N (Q .normal) ((dn,.val<|Ay true)::(N,.inv I')::Gk)):Goal P w0 H0 N (.region id ops true) Q Γ:=by
 simp[C9] at hc;refine λa w H hs=>aBd hmx tI hc.1.1 hc.1.2 hc.2 Ju hL hp hsl (H0:=H0) (λa w H hs=>?_) hs
 rw[tH];exact xB hv G0 hy hm hJ ht ha hI Kr Az hdy hdn kt kf hs
def adH{P:CP}{α σ ρ:Type}(w0:Ah P)(H0:HV)(N:Nat)(J:σ->Inv->Prop)(st:α->σ)(JO:α->Ctx)(k:α->A9 ρ)(r:ρ)(a:Act)(w:AR):Prop:=∃i I,k i=some r/\J (st i) I/\∃H,Sat w0 H0 N ((N,.inv I)::JO i) a w H
def abt{st:α->σ}{JO:α->Ctx}{k:α->A9 ρ}{i:α}(hm:k i=some r)(hJ:J (st i) I)(h:EU Γ ts ((N,.inv I)::JO i)):EN w0 H0 N (λa w=>adH w0 H0 N J st JO k r a w) Γ:=λ_ _ H hs=>⟨i,I,hm,hJ,H,hs.weaken h.sub⟩
def aap{τ:Type}(st:τ->σ)(Ai:τ->Ctx){n:Nat}{B:(τ->A9 ρ)->τ->A9 ρ}{s0:τ}{I0:Inv}{c:Code}(hm:lp n B s0=some r)(hJ:J (st s0) I0)(h0:EU Γ ts ((N,.inv I0)::Ai s0))
 (round:∀(k:τ->A9 ρ) (s:τ) (I:Inv),B k s=some r->J (st s) I->Goal P w0 H0 N c (Exit.then (adH w0 H0 N J st Ai k r) Q) ((N,.inv I)::Ai s)):Goal P w0 H0 N (.loop c) Q Γ:=by
 intro a w H hs;refine wp_loop_ghost (λ(i:Nat×τ) a w=>lp i.1 B i.2=some r/\∃I H,J (st i.2) I/\Sat w0 H0 N ((N,.inv I)::Ai i.2) a w H) (λi=>i.1) (n,s0) ⟨hm,I0,H,hJ,hs.weaken h0.sub⟩ ?_;rintro⟨m,s⟩ a w ⟨hl,I,H,hJ,hs⟩;cases m with
 |zero=>cases hl
 |succ m=>
  refine WE (round (lp m B) s I hl hJ a w H hs) λe a' w' q=>?_
  cases e with|normal=>let⟨i,I',hi,hJ',H',DQ⟩:=q;exact⟨(m,i),⟨hi,I',H',hJ',DQ⟩,Nat.lt_succ_self m⟩|_=>exact q
def xO{o:A9 (A3 α)}{f:FuncId}{FD:A3 Ty}{d:A9 Tmp}{g:A9 (Nat×Bool)}(ha:AP Γ xs FD)(h:∀L,o=some L->Z5 P f FD enc L):B0 P Γ ⟨d,.makeFunc (.func f) #[] xs.toArray,ty,pos,af,g⟩ (.val<|V6 P enc o):=
 Dp λ_ _ _ a w H hs=>by refine⟨.func (.func f) #[] (xs.map a.eval).toArray,?_,⟨f,_,FD,rfl,by simpa using ha.ok hs,h⟩,rfl⟩;simp[execOp,Instr.makeFunc]
end
section
variable[D:DR]
variable{P:Program}{w0:Ah P}{H0:HV}{N:Nat}{ops:Array Oper}{Q:Exit->Act->World->Prop}{Γ Aq:Ctx}{d:Option Tmp}{ty:TypeId}{pos:String}{af:Array Edge}{g:Option (Nat×Bool)}
variable{w:AR}{a:Act}{H:HV}{B:Ah P}{v:AV}{i t:Nat}{T:Ap}{b off:Nat}{gg:Bool}
def Bt:A3 Bu->Nat->Nat
 |[],_=>0|_::_,0=>0|p::l,i+1=>p.n+Bt l i
def pv(p:Bu)(off:Nat)(cs:A3 AV):AV:=H6 p.agg ((cs.drop off).take p.n).toArray
def PO{w:AR}{b:Nat}:∀{ps:A3 Bu} {cs:A3 AV},GN w b ps cs↔∃(i:Nat) (p:Bu),ps[i]? =some p/\p.owns w (pv p (Bt ps i) cs) b
 |[],cs=>by simp[GN]
 |p::l,cs=>by
  simp[GN,PO (ps:=l)];constructor
  .rintro(h|⟨i,q,h1,h2⟩)
   .exact⟨0,p,rfl,by simpa[pv,Bt] using h⟩
   .exact⟨i+1,q,by simpa using h1,by simpa[pv,Bt,Fe] using h2⟩
  .rintro⟨i,q,h1,h2⟩;cases i with|zero=>simp at h1;subst h1;exact .inl (by simpa[pv,Bt] using h2)|succ i=>exact .inr ⟨i,q,by simpa using h1,by simpa[pv,Bt,Fe] using h2⟩
def p8{w:AR}:∀{ps:A3 Bu} {cs:A3 AV},O4 w ps cs↔∀(i j:Nat) (p q:Bu),i<j->ps[i]? =some p->ps[j]? =some q->∀b,p.owns w (pv p (Bt ps i) cs) b-> ¬q.owns w (pv q (Bt ps j) cs) b
 |[],cs=>by simp[O4]
 |p::l,cs=>by
  simp[O4,p8 (ps:=l)];constructor
  .rintro⟨h1,h2⟩ i j a b KW ha hb c hc FR;cases j with
   |zero=>omega
   |succ j=>
    have Bg:l[j]? =some b:=by simpa using hb
    have HH:b.owns w (pv b (Bt l j)<|cs.drop p.n) c:=by simpa[pv,Bt,Fe] using FR
    cases i with
    |zero=>simp at ha;subst ha;exact h1 c (by simpa[pv,Bt] using hc)<|PO.2 ⟨j,b,Bg,HH⟩
    |succ i=>exact h2 i j a b (by omega) (by simpa using ha) Bg c (by simpa[pv,Bt,Fe] using hc) HH
  .intro h;refine⟨λb hb ho=>?_,λi j a b KW ha hb c hc FR=>?_⟩
   .let⟨j,q,h1,h2⟩:=PO.1 ho;exact h 0 (j+1) p q (by omega) rfl (by simpa using h1) b (by simpa[pv,Bt] using hb) (by simpa[pv,Bt,Fe] using h2)
   .exact h (i+1) (j+1) a b (by omega) (by simpa using ha) (by simpa using hb) c (by simpa[pv,Bt,Fe] using hc) (by simpa[pv,Bt,Fe] using FR)
def YY{n:Nat}{agg:Bool}(h:Shape n agg v):v.cells.toList.length=n:=by simpa using h.size
def R2{B:Ah P}{a:Act}{w:AR}{H:HV}:∀{ps:A3 Bu} {cs:A3 AV} {i:Nat} {p:Bu},Iz B a w H ps cs->ps[i]? =some p->Bt ps i+p.n<=cs.length/\Shape p.n p.agg (pv p (Bt ps i) cs)/\p.holds B a w H (pv p (Bt ps i) cs)/\(pv p (Bt ps i) cs).cells.toList=(cs.drop<|Bt ps i).take p.n
 |[],_,i,_,_,h=>by simp at h
 |p::l,_,0,q,⟨v,rest,e,CW,hv,hr⟩,h=>by
  simp at h;subst h;subst e;have hl:=YY CW;have e1:pv p (Bt (p::l) 0) (v.cells.toList++rest)=v:=by simpa[pv,Bt] using(QX (rest:=rest) CW).1
  rw[e1];refine⟨by simp[Bt];have:=CW.size;omega,CW,hv,?_⟩;simp[Bt,Pg];rw[<-hl,iJ]
 |p::l,_,i+1,q,⟨v,rest,e,CW,hv,hr⟩,h=>by
  simp at h;subst e;let⟨h1,h2,h3,h4⟩:=R2 hr h;have hd:List.drop (Bt (p::l)<|i+1) (v.cells.toList++rest)=List.drop (Bt l i) rest:=by simp[Bt];rw[<-YY CW,Nl];simp
  have e1:pv q (Bt (p::l)<|i+1) (v.cells.toList++rest)=pv q (Bt l i) rest:=by simp[pv,hd]
  rw[e1,hd];refine⟨?_,h2,h3,h4⟩;have:=CW.size;simp[Bt];omega
def aa7{B:Ah P}{a:Act}{w:AR}{H:HV}:∀{ps:A3 Bu} {cs:A3 AV},Iz B a w H ps cs->cs.length=(ps.map Bu.n).sum
 |[],_,e=>by have e:_=[]:=e;subst e;rfl
 |p::l,_,⟨v,rest,e,CW,hv,hr⟩=>by subst e;have:=aa7 hr;have h2:=CW.size;simp[this,h2]
theorem qL{B:Ah P}{a:Act}{w:AR}{H:HV}:∀{ps:A3 Bu} {cs:A3 AV} {i:Nat} {p q:Bu} {x:AV},Iz B a w H ps cs->ps[i]? =some p->Shape q.n q.agg x->q.n=p.n->q.holds B a w H x->Iz B a w H (ps.set i q) (cs.take (Bt ps i)++x.cells.toList++cs.drop (Bt ps i+p.n))/\Bt (ps.set i q) i=Bt ps i/\pv q (Bt ps i) (cs.take (Bt ps i)++x.cells.toList++cs.drop (Bt ps i+p.n))=x/\
  ∀(j:Nat) (r:Bu),j≠i->ps[j]? =some r->Bt (ps.set i q) j=Bt ps j/\pv r (Bt ps j) (cs.take (Bt ps i)++x.cells.toList++cs.drop (Bt ps i+p.n))=pv r (Bt ps j) cs
 |[],_,i,_,_,_,_,h,_,_,_=>by simp at h
 |p::l,_,0,q,r,x,⟨v,rest,e,CW,hv,hr⟩,h,hx,hn,hq=>by
  simp at h;subst h;subst e;have hl:=YY CW;have GZ:=YY hx;have hd:List.drop (Bt (p::l) 0+p.n) (v.cells.toList++rest)=rest:=by simp[Bt,Pd];rw[<-hl,WK]
  rw[hd];simp only[List.set_cons_zero,Bt,List.take_zero,Ie];refine⟨⟨x,rest,rfl,hx,hq,hr⟩,trivial,by simpa[pv] using(QX (rest:=rest) hx).1,?_⟩;intro j s hj hs;cases j with
  |zero=>exact absurd rfl hj
  |succ j=>
   simp[Bt,hn,true_and,pv];have e1:List.drop (p.n+Bt l j) (x.cells.toList++rest)=List.drop (Bt l j) rest:=by rw[<-hn,<-GZ,Nl];simp
   have e2:List.drop (p.n+Bt l j) (v.cells.toList++rest)=List.drop (Bt l j) rest:=by rw[<-hl,Nl];simp
   rw[e1,e2]
 |p::l,_,i+1,q,r,x,⟨v,rest,e,CW,hv,hr⟩,h,hx,hn,hq=>by
  simp at h;subst e;have hl:=YY CW;let⟨h1,h2,h3,h4⟩:=qL hr h hx hn hq;have et:List.take (Bt (p::l)<|i+1) (v.cells.toList++rest)=v.cells.toList++List.take (Bt l i) rest:=by simp[Bt];rw[<-hl,WR];simp[D6]
  have ed:List.drop (Bt (p::l) (i+1)+q.n) (v.cells.toList++rest)=List.drop (Bt l i+q.n) rest:=by
   simp[Bt];rw[<-hl,LM,Nl];simp
   done
  have ec:List.take (Bt (p::l)<|i+1) (v.cells.toList++rest)++x.cells.toList++List.drop (Bt (p::l) (i+1)+q.n) (v.cells.toList++rest)=v.cells.toList++(List.take (Bt l i) rest++x.cells.toList++List.drop (Bt l i+q.n) rest):=by grind
  rw[ec];have sh:∀(s:Bu) (o:Nat) (ED:A3 AV),pv s (p.n+o) (v.cells.toList++ED)=pv s o ED:=λs o ED=>by
   simp[pv];have:List.drop (p.n+o) (v.cells.toList++ED)=List.drop o ED:=by rw[Nl,NG (by omega),hl];simp
   rw[this]
  refine⟨⟨v,_,rfl,CW,hv,h1⟩,by simp[Bt,h2],?_,?_⟩
  .simp only[Bt];rw[sh];exact h3
  .intro j s hj hs;cases j with
   |zero=>simp at hs;subst hs;refine⟨rfl,?_⟩;simp only[Bt];have g1:=(QX (rest:=List.take (Bt l i) rest++x.cells.toList++List.drop (Bt l i+q.n) rest) CW).1;have g2:=(QX (rest:=rest) CW).1;simp only[pv,Pg];rw[g1,g2]
   |succ j=>let⟨k1,k2⟩:=h4 j s (by omega) (by simpa using hs);refine⟨by simp[Bt,k1],?_⟩;simp only[Bt];rw[sh,sh];exact k2
theorem W0{ps:A3 Bu}{cs:A3 AV}{p q:Bu}{x:AV}(h:Iz B a w H ps cs)(hs:O4 w ps cs)(hi:ps[i]? =some p)(hx:Shape q.n q.agg x)(hn:q.n=p.n)(hq:q.holds B a w H x)
 (tG:∀b,q.owns w x b->p.owns w (pv p (Bt ps i) cs) b\/ ¬GN w b ps cs):∃ED,ED=cs.take (Bt ps i)++x.cells.toList++cs.drop (Bt ps i+p.n)/\Iz B a w H (ps.set i q) ED/\O4 w (ps.set i q) ED/\
   (∀b,GN w b (ps.set i q) ED->q.owns w x b\/(GN w b ps cs/\ ¬p.owns w (pv p (Bt ps i) cs) b)):=by
 let⟨h1,h2,h3,h4⟩:=qL h hi hx hn hq;have hlt:=(FX.1 hi).1;have at':∀j s,(ps.set i q)[j]? =some s->(j=i/\s=q)\/(j≠i/\ps[j]? =some s):=λj s hj=>by
  by_cases e:j=i
  .grind
  .grind
 have DQ:=p8.1 hs;have sym:∀j s,j≠i->ps[j]? =some s->∀b,s.owns w (pv s (Bt ps j) cs) b-> ¬p.owns w (pv p (Bt ps i) cs) b:=λj s hj hjs b hb Bg=>by
  rcases Nat.lt_or_gt_of_ne hj with h|h
  .grind
  .grind
 have awI:∀j s,j≠i->ps[j]? =some s->∀b,s.owns w (pv s (Bt ps j) cs) b-> ¬q.owns w x b:=λj s hj hjs b hb Bg=>by
  rcases tG b Bg with h|h
  .grind
  .exact h<|PO.2 ⟨j,s,hjs,hb⟩
 refine⟨_,rfl,h1,p8.2 ?_,λb hb=>?_⟩
 .grind
 .let⟨j,s,hj,hb⟩:=PO.1 hb;rcases at' j s hj with⟨rfl,rfl⟩|⟨nj,ej⟩
  .grind
  .rw[(h4 j s nj ej).1,(h4 j s nj ej).2] at hb;exact .inr ⟨PO.2 ⟨j,s,ej,hb⟩,sym j s nj ej b hb⟩
def gZ{ps:A3 Bu}{cs:A3 AV}{p:Bu}(h:Iz B a w H ps cs)(hi:ps[i]? =some p):cs.take (Bt ps i)++(pv p (Bt ps i) cs).cells.toList++cs.drop (Bt ps i+p.n)=cs:=by let⟨h1,_,_,h4⟩:=R2 h hi;rw[h4,<-Fe,ID,Oi,Oi]
theorem aiv{dd:Nat}{s s' sd:AS}(hs:Sat w0 H0 N Γ a w H)(ht:(t,s)∈Γ)(DN:dd<N)(hne:dd≠t)(hl:dd∉sd.CD)
 (DQ:s'.holds w0 (a.put (some dd) v) w H (Ae a t))(hv:sd.holds w0 a w H v)(o1:∀b,s'.owns w (Ae a t) b->s.owns w (Ae a t) b)(o2:∀b,sd.owns w v b->s.owns w (Ae a t) b)
 (o3:∀b,sd.owns w v b-> ¬s'.owns w (Ae a t) b):Sat w0 H0 N ((dd,sd)::(t,s')::del dd (BL t Γ)) (a.put (some dd) v) w H:=by
 have sub:∀q∈del dd (BL t Γ),q∈Γ/\q.1≠t:=λq hq=>DO q<|Mb q hq
 have h1:Sat w0 H0 N ((dd,sd)::del dd (BL t Γ)) (a.put (some dd) v) w H:=QV (hs.weaken λq hq=>(sub q hq).1) DN PX hl hv λb hb q hq hqb=>hs.sep _ ht q (sub q hq).1 (λe=>(sub q hq).2 e.symm) b (o2 b hb) hqb
 have et:Ae (a.put (some dd) v) t=Ae a t:=PL hne;have ed:Ae (a.put (some dd) v) dd=v:=Vf (by rw[hs.sz];exact DN);have eo:∀q∈del dd (BL t Γ),Ae (a.put (some dd) v) q.1=Ae a q.1:=λq hq=>PL (rX hq).1.symm
 have key:∀q∈(dd,sd)::del dd (BL t Γ),∀b,s'.owns w (Ae a t) b-> ¬q.2.owns w (Ae (a.put (some dd) v) q.1) b:=λq hq b hb hqb=>by
  rcases Am.1 hq with e|hq
  .grind
  .rw[eo q hq] at hqb;exact hs.sep _ ht q (sub q hq).1 (λe=>(sub q hq).2 e.symm) b (o1 b hb) hqb
 have h2:Sat w0 H0 N ((t,s')::(dd,sd)::del dd (BL t Γ)) (a.put (some dd) v) w H:=by
  refine⟨h1.nd,h1.sz,h1.below,h1.Fj,h1.sub,?_,?_,h1.gl⟩
  .intro q hq;rcases Am.1 hq with e|hq
   .grind
   .exact h1.holds q hq
  .intro q hq r hr hn b hb Bg;rcases Am.1 hq with e|hq<;>rcases Am.1 hr with e'|hr
   .grind
   .grind
   .grind
   .exact h1.sep q hq r hr hn b hb Bg
 refine h2.weaken λq hq=>?_
 simp[Am] at hq⊢;rcases hq with h|h|h
 .grind
 .exact .inl h
 .grind
inductive FZ(Γ:Ctx):Nat->Nat->Nat->Prop where
 |ptr {p t off:Nat} (h:look Γ p=some (.ptr t off)):FZ Γ p t off|box {t:Nat} {T:Ap} {g:Bool} {ps:A3 Bu} (h:look Γ t=some (.DA T g ps)):FZ Γ t t 0
def FZ.ok{p:Nat}{ps:A3 Bu}(h:FZ Γ p t off)(ht:look Γ t=some (.DA T gg ps))(hs:Sat w0 H0 N Γ a w H):∃b cs,Ae a t= .pointer (some ⟨b,0,none⟩)/\a.eval (.tmp p)= .pointer (some ⟨b,off,none⟩)/\w.heap[b]? =some (.cells cs T (0,0))/\H b=none/\w0.EH b/\Iz w0 a w H ps cs.toList/\O4 w ps cs.toList/\ ¬GN w b ps cs.toList:=by
 let⟨b,cs,e,hb,hn,hm,ho,IU,hx⟩:=hs.holds _<|BD ht
 simp only at e;refine⟨b,cs,e,?_,hb,hn,hm,ho,IU,hx⟩;cases h with
 |ptr h=>
  let⟨b',e1,e2⟩:=hs.holds _<|BD h
  simp only at e1 e2;rw[e] at e1;cases e1;exact e2
 |box h=>exact e
def S6{k:Nat}{T':Ap}{ps:A3 Bu}(h:look Γ t=some (.DA T' gg ps))(hf:Gf P T k off=true):B0 P Γ ⟨d,.fieldAddr T (.tmp t) k,ty,pos,af,g⟩ (.ptr t off):=
 Dp λ_ _ _ a w _ hs=>by
  let⟨b,cs,e,_⟩:=hs.holds _<|BD h
  have e':a.eval (.tmp t)= .pointer (some ⟨b,0,none⟩):=e;exact⟨.pointer<|some ⟨b,0+off,none⟩,by simp[execOp,e',YP hf],⟨b,e,by simp⟩,rfl⟩
def y5{p:Bu}{cs:BG AV}{E:Ap}{w':AR}{ps:A3 Bu}(hT:Bv P T p.n p.agg=true)(hb:w.heap[b]? =some (.cells cs E (0,0)))(h:Iz B a w' H ps cs.toList)(hi:ps[i]? =some p):(loadVar T ⟨b,Bt ps i,none⟩).run P w= .ok (pv p (Bt ps i) cs.toList) w:=by let⟨h1,_,_,_⟩:=R2 h hi;exact Rp hT hb (by simpa using h1)
def abZ{p:Nat}{T':Ap}{ps:A3 Bu}{τ:Ty}(hp:FZ Γ p t off)(ht:look Γ t=some (.DA T' gg ps))(hi:ps[i]? =some (.val τ))(ho:Bt ps i=off)(hT:Bv P T τ.n τ.agg=true):B0 P Γ ⟨d,.load T<| .tmp p,ty,pos,af,g⟩ (.val τ):=
 Dp λ_ _ _ a w _ hs=>by let⟨b,cs,e,ep,hb,_,_,Az,_⟩:=hp.ok ht hs;subst ho;let⟨_,_,h3,_⟩:=R2 Az hi;refine⟨_,?_,h3,rfl⟩;simp[execOp,ep,Instr.loadAt,Instr.sureAddr,y5 (p:= .val τ) hT hb Az hi]
def Bu.sty:Bu->AS
 | .buf E sz l=> .buf E sz l| .map K E Eb sz Ec=> .H4 K E Eb sz Ec|_=> .gone
def Bu.aim:∀{p:Bu},p.holds B a w H v->p.sty.holds B a w H v
 | .val _,_=>trivial| .any _ _,_=>trivial| .sm _,_=>trivial| .buf _ _ _,h=>h| .map _ _ _ _ _,h=>h
def Bu.Yr:∀{p:Bu},p.sty.owns w v b↔p.owns w v b
 | .val _=>Iff.rfl| .any _ _=>Iff.rfl| .sm _=>Iff.rfl| .buf _ _ _=>Iff.rfl| .map _ _ _ _ _=>Iff.rfl
def Bu.aij:∀{p:Bu},p.sty.CD=[]
 | .val _=>rfl| .any _ _=>rfl| .sm _=>rfl| .buf _ _ _=>rfl| .map _ _ _ _ _=>rfl
def Su(d:Nat):Bool->Bu
 |true=> .sm d|false=> .any 1 false
end
end Trn
