/-
  Part of the proof of SolidNormals.
-/
import Derived.WalkKit
import Derived.Orders
import Derived.RangeFuncIn
import Derived.RangeFuncRecord
import Derived.RangeFuncLeaves
import Derived.RangeFuncSeq
import Derived.Scope
import Derived.Shelf.Strings.Builder1
set_option maxRecDepth 100000
set_option maxHeartbeats 20000000
set_option linter.all false
open Go Go.RowKit Go.Proofs
namespace Trn
def aZ:= @of_decide_eq_true
def aW:= @decide_eq_true
def br:= @of_decide_eq_false
def aY:= @List.mem_cons
def bC:= @decide_eq_false
def cW:= @List.mem_cons_of_mem
def eK:= @Classical.byContradiction
def eF:= @List.take_of_length_le
def bY:= @Bool.and_eq_true
def bp:= @Nat.le_refl
def cr:= @List.mem_singleton
def bN:= @List.mem_append
def gM:= @Int.mul_le_mul_of_nonneg_left
def a8:= @cond_false
def bt:= @Int.mul_add
def fL:= @Nat.eq_of_beq_eq_true
def c7:= @List.length_map
def iy:= @List.getD_eq_getElem?_getD
def dI:= @List.all_eq_true
def gL:= @Int.eq_ofNat_of_zero_le
def bT:= @List.mem_map
def eS:= @Go.Result.andThen_ok
def gK:= @Nat.le_of_ble_eq_true
def bD:= @cond_true
def gF:= @Array.length_toList
def eQ:= @Option.some.inj
def df:= @Nat.le_trans
def gJ:= @List.mem_cons_self
def kE:= @List.getElem?_eq_some_iff
def j7:= @List.getElem?_eq_getElem
def ft:= @Rat.mul_nonneg
def fW:= @Nat.min_eq_left
def eP:= @Int.mul_assoc
def iU:= @Int.natAbs_natCast
def jc:= @decide_eq_true_iff
def iT:= @Int.mul_left_comm
def fE:= @Go.Sem.run_bind
def me:= @decide_eq_false_iff_not
def jl:= @Bool.not_eq_true'
def pZ:= @List.eq_nil_of_length_eq_zero
def fU:= @Int.le_of_lt
def lz:= @Nat.ble_eq_true_of_le
def pY:= @Int.sign_eq_neg_one_of_neg
def iS:= @List.drop_drop
def kD:= @List.getElem?_map
def mF:= @Nat.mul_le_mul_right
def u7:= @Int.mul_le_mul_of_nonneg_right
def pe:= @Int.sign_eq_one_of_pos
def lr:= @List.length_drop
def pd:= @List.mem_append_left
def nT:= @Nat.lt_of_lt_of_le
def l8:= @decide_eq_decide
def iR:= @Nat.zero_le
def pX:= @Nat.pow_le_pow_right
def lq:= @Rat.mul_eq_zero
def nR:= @List.append_assoc
def jQ:= @Rat.le_of_lt
def se:= @Bool.or_eq_false_iff
def qM:= @List.pairwise_cons
def xK:= @List.getElem?_append_left
def kQ:= @Nat.lt_or_ge
def j6:= @Rat.le_refl
def r9:= @Nat.eq_zero_or_pos
def r8:= @Int.emod_lt_of_pos
def kC:= @Rat.mul_pos
def u6:= @Int.ofNat_eq_natCast
def kP:= @Int.add_mul
def wj:= @Array.getElem?_toList
def rZ:= @Int.lt_trichotomy
def pW:= @List.mem_filter
def pU:= @List.length_set
def pc:= @Nat.mul_le_mul
def xJ:= @List.drop_of_length_le
def Ba:= @Array.getElem?_eq_some_iff
def A9:= @List.getElem?_append_right
def rY:= @List.getElem_mem
def qL:= @List.nil_append
def xI:= @List.length_replicate
def mE:= @Int.mul_sub
def rX:= @Bool.or_eq_true
def rW:= @List.append_nil
def rV:= @Int.ediv_nonneg
def qK:= @Go.run_underlying
def zz:= @List.take_append_drop
def zy:= @Int.emod_add_mul_ediv
def tG:= @Int.emod_nonneg
def rU:= @Int.mul_nonneg
def rT:= @Int.natAbs_mul
def zx:= @List.mem_of_mem_take
def pT:= @Go.Sem.run_pure
def pS:= @getElem!_pos
def tF:= @Go.heap_alloc_new
def uZ:= @Int.natCast_mul
def pb:= @Nat.add_mul
def rR:= @Nat.add_assoc
def rQ:= @Bool.true_and
def qJ:= @Nat.mul_comm
def D7:= @List.drop_eq_getElem_cons
def uY:= @List.drop_take
def wh:= @List.map_append
def pg:= @Prod.mk.injEq
def CA:= @Array.getD_eq_getD_getElem?
def vj:= @decide_eq_true_eq
def ni:= @Int.mul_one
def vi:= @Rat.divInt_eq_div
def qg:= @List.map_cons
def yx:= @List.mem_of_mem_drop
def wW:= @List.getElem?_drop
def tm:= @Rat.num_eq_zero
def wV:= @Rat.div_mul_cancel
def vh:= @List.drop_append
def vg:= @List.nil_sublist
def yw:= @beq_eq_false_iff_ne
def AD:= @List.mem_append_right
def AB:= @List.contains_iff_mem
def tj:= @List.take_take
def ve:= @Go.Oper.upon_value
def yv:= @List.getElem?_take
def AA:= @List.mem_of_getElem?
def ti:= @List.all_cons
def qf:= @Nat.one_mul
def qe:= @Nat.pow_add
def yu:= @List.pairwise_map
def pf:= @bne_iff_ne
def E5:= @Array.getElem?_eq_getElem
def Cz:= @Array.getElem?_modify
def wU:= @List.drop_zero
def wT:= @Int.mul_le_mul
def Cy:= @List.pairwise_append
def Az:= @List.Sublist.refl
def Ay:= @List.flatMap_cons
def vd:= @Nat.zero_add
def Im:= @Int.fdiv_eq_ediv_of_nonneg
def Ax:= @List.cons_append
def Aw:= @List.not_mem_nil
def Av:= @Nat.mod_eq_of_lt
def Au:= @List.drop_length
def As:= @Int.ediv_le_self
def Ar:= @List.isEmpty_iff
def LU:= @List.pairwise_iff_forall_sublist
def Cx:= @Bool.false_eq_true
def yt:= @List.mem_range
def E4:= @List.getElem?_eq_none
def Il:= @List.sublist_append_right
def te:= @Nat.mod_lt
def Aq:= @Option.map_some
def wS:= @Nat.add_comm
def Ap:= @Rat.num_intCast
def LS:= @Rat.mul_le_mul_of_nonneg_right
def Cw:= @Int.emod_eq_of_lt
def Ik:= @Go.World.putObj_heap_other
def Ij:= @List.sublist_append_iff
def E3:= @List.length_pos_iff
def E2:= @Nat.mul_le_mul_left
def Ao:= @Go.Oper.upon_skip
def Cv:= @Nat.le_add_right
def Ii:= @Array.getElem?_eq_none
def wR:= @Nat.le_succ
def Ih:= @List.getElem?_set_self
def Ig:= @List.singleton_sublist
def E1:= @List.filter_append
def LR:= @Int.gcd_pos_of_ne_zero_left
def Cu:= @List.length_nil
def Ie:= @Int.ediv_lt_of_lt_mul
def LQ:= @Array.toList_setIfInBounds
def An:= @Bool.false_or
def Am:= @Bool.not_true
def E0:= @List.size_toArray
def EZ:= @List.ext_getElem?
def EY:= @Nat.gcd_zero_left
def LP:= @List.pairwise_iff_getElem
def LO:= @Int.lt_of_mul_lt_mul_left
def yr:= @Nat.log2_lt
def Al:= @Nat.add_zero
def Ak:= @Nat.gcd_comm
def Aj:= @Int.mul_zero
def Ai:= @Nat.pow_succ
def LN:= @List.Pairwise.imp_of_mem
def Ic:= @List.take_replicate
def LM:= @List.pairwise_singleton
def yq:= @beq_iff_eq
def EX:= @Go.Oper.upon_enter
def EW:= @Array.size_ofFn
def Ib:= @Bool.not_eq_false'
def EV:= @Nat.two_pow_pos
def EU:= @Rat.den_intCast
def ET:= @Int.mul_ne_zero
def LL:= @List.length_eq_one_iff
def ES:= @List.drop_left
def LK:= @Array.getElem?_append
def Ct:= @List.map_set
def Cs:= @Nat.succ_mul
def LJ:= @List.length_filter_le
def ER:= @Int.natAbs_neg
def EP:= @Rat.mkRat_self
def Cr:= @Rat.le_trans
def Ia:= @List.take_append
def H9:= @Option.getD_some
def H8:= @List.any_eq_true
def H7:= @Go.Lib.cell_of_heap
def H6:= @List.filter_cons
def LI:= @BitVec.ofInt_natCast
def H5:= @List.append_inj'
def Cq:= @Rat.div_def
def Cp:= @Rat.inv_pos
def LH:= @List.take_succ_cons
def LG:= @List.drop_set_of_lt
def H4:= @List.cons.injEq
def RD:= @List.getElem?_zip_eq_some
def HZ:= @Bool.decide_and
def HY:= @Bool.eq_iff_iff
def EO:= @Bool.true_or
def EN:= @Nat.le_of_lt
def LF:= @List.map_replicate
def EM:= @Int.add_zero
def LD:= @BitVec.toNat_ofNat
def LC:= @Int.mul_right_comm
def LB:= @Rat.mul_inv_cancel
def HX:= @Bool.false_and
def HW:= @Bool.and_false
def HU:= @Rat.num_divInt
def HT:= @Rat.den_divInt
def LA:= @List.any_eq_false
def EL:= @Go.setRow_heap
def RC:= @Go.World.putObj_heap_same
def Lz:= @Bool.not_eq_true
def Ly:= @List.mem_flatMap
def HR:= @List.map_nil
def Lx:= @List.foldl_cons
def RB:= @List.contains_eq_mem
def HO:= @Int.zero_mul
def Lw:= @List.all_append
def Lv:= @UInt8.toNat_inj
def HN:= @or_and_right
def Lu:= @Rat.intCast_inj
def Lt:= @List.any_append
def Ls:= @List.take_left
def Lr:= @List.take_succ
def Lq:= @Bool.not_false
def HM:= @Rat.neg_num
def HL:= @Rat.neg_den
def EK:= @Go.wpIn_mono
def RA:= @Rat.sub_eq_add_neg
def Lp:= @Bool.or_false
def Ln:= @Bool.and_true
def Lm:= @List.map_map
def Ll:= @Nat.zero_mul
def Lk:= @Rat.le_total
def aH{α:Sort _}{a b:α}(h:a=b:=by kernel_rfl):a=b:=h
abbrev att:=List
abbrev av8:=Option
abbrev arG:=World
abbrev arH:=Value
abbrev atq:=Operand
abbrev ato:=TypeId
abbrev atp:=Program
abbrev awa:=Array
abbrev HV:=Nat->av8 Obj
class DR where
 on:Bool
def DR.m[D:DR](w:arG):Nat:=cond D.on w.drawn 0
abbrev DR.strict:DR:=⟨true⟩
instance DR.lax:DR:=⟨false⟩
abbrev JQ[D:DR](w w':arG):Prop:=DR.m w<=DR.m w'
def JQ.of[D:DR]{w w':arG}(h:w.drawn<=w'.drawn):JQ w w':=by
 unfold JQ DR.m;cases D.on
 ·exact bp _
 ·exact h
class ah3[D:DR]:Prop where
 off:D.on=false
instance: @ah3 DR.lax:= @ah3.mk DR.lax rfl
def HV.le(H H':HV):Prop:=∀r o,H r=some o->H' r=some o
def HV.le.refl(H:HV):HV.le H H:=fun _ _ h=>h
def HV.le.trans{A B C:HV}(h:HV.le A B)(k:HV.le B C):HV.le A C:=fun r o x=>k r o<|h r o x
def Cb:awa arH:=((List.range 20).map fun i=>Value.int .u64<|10^i).toArray
def Ew(P:atp)(T:ato)(o:av8 Obj):Prop:=match P.underlying T with
 |some (.int k)=>∃m E fr,o=some (.cells #[.int k m] E fr)
 |some (.array 20 _)=>∃E fr,o=some (.cells Cb E fr)
 |_=>True
def qU(P:atp)(H:HV):Prop:=∀g T,(P.globals[g]?).map (·.type)=some T->Ew P T (H g)
def qU.mono{P:atp}{H H':HV}(h:HV.le H H')(k:qU P H):qU P H':=fun g T e=>by
 have:=k g T e;unfold Ew at this⊢;split
 ·rename_i hu;rw[hu] at this;obtain⟨m,E,fr,e⟩:=this;exact⟨m,E,fr,h _ _ e⟩
 ·rename_i hu;rw[hu] at this;obtain⟨E,fr,e⟩:=this;exact⟨E,fr,h _ _ e⟩
 ·trivial
structure ar(P:atp) where
 w:arG
 X:Nat->Prop
 rd:av8 Nat
 OG:Bool
 ds:att Deferred
 lo:Nat
 alx:lo<=w.heap.size
 aot:∀k,X k->lo<=k
section
variable{P:Program}
def Sh:Nat->Prop:=fun _=>False
def ar.call(P:atp)(w:arG):ar P:=⟨w,Sh,none,false,[],w.heap.size,bp _,fun _ h=>h.elim⟩
def ar.n(b:ar P):Nat:=b.w.heap.size
def ar.nX(b:ar P)(k:Nat):Prop:=b.n<=k\/b.X k
def ar.yl{b:ar P}{k:Nat}(h:b.nX k):b.lo<=k:=h.elim (fun h=>df b.alx h)<|b.aot k
def ar.lo_le{b:ar P}:b.lo<=b.n:=b.alx
end
section
variable{P:Program}
variable[D:DR]
variable{w:arG}{b:ar P}
structure Ex(n:Nat)(w w':arG):Prop extends Below n w w' where
 drawn:JQ w w'
structure CR(w w':arG)(row:av8 Nat):Prop extends w.grownBy w' row where
 drawn:JQ w w'
def Ex.refl(n:Nat)(w:arG):Ex n w w:=⟨Below.refl _ _,bp _⟩
def Ex.alloc{w:arG}(o:Obj):Ex w.heap.size w (w.alloc o):=⟨(Below.refl _ _).alloc (bp _) _,bp _⟩
def CR.setRow(w:arG)(b:Nat)(cs:awa arH):CR w (w.setRow b cs) (some b):=⟨⟨rfl,rfl,rfl,by simp,fun k _ hk=>setRow_other w b k _ (fun e=>hk (by rw[e]))⟩,bp _⟩
structure Kept(b:ar P)(w:arG):Prop where
 os:w.os=b.w.os
 tape:w.tape=b.w.tape
 output:w.output=b.w.output
 drawn:JQ b.w w
 size:b.n<=w.heap.size
 block:b.OG=false->∀k,k<b.n-> ¬b.X k->w.heap[k]? =b.w.heap[k]?
def Kept.step{w':arG}(h:Kept b w)(k:Ex w.heap.size w w'):Kept b w':=
 ⟨k.os.trans h.os,k.tape.trans h.tape,k.output.trans h.output,df h.drawn k.drawn,df h.size k.size,fun hv i hi hx=>(k.block i<|nT hi h.size).trans<|h.block hv i hi hx⟩
def Kept.Fs{w':arG}{row:av8 Nat}(h:Kept b w)(g:CR w w' row)(hr:∀k,row=some k->b.nX k):Kept b w':=
 ⟨g.os.trans h.os,g.tape.trans h.tape,g.output.trans h.output,df h.drawn g.drawn,df h.size g.size,fun hv i hi hx=>(g.block i (nT hi h.size) (fun e=>by
  rcases hr i e.symm with h1|h1
  ·omega
  ·exact hx h1)).trans<|h.block hv i hi hx⟩
def Kept.below(h:Kept b w)(hX:b.X=Sh)(hv:b.OG=false):Ex b.w.heap.size b.w w:=⟨⟨h.os,h.tape,h.output,h.size,fun k hk=>h.block hv k hk (by rw[hX];exact fun h=>h)⟩,h.drawn⟩
end
section
variable{P:Program}
variable{H:HV}{v:arH}{H':HV}
def grow(H:HV)(w w':arG):HV:=fun r=>if r<w.heap.size then H r else w'.heap[r]?
def Jo:Bool->awa arH->arH
 |true,cs=> .agg cs
 |false,cs=>cs.getD 0 undef
structure Shape(n:Nat)(agg:Bool)(v:arH):Prop where
 size:v.cells.size=n
 cell:∀c∈v.cells.toList,c.oneCell'=true
 eq:v=Jo agg v.cells
def Shape.one(h:v.oneCell'=true):Shape 1 false v:=by
 have hc:v.cells= #[v]:=by cases v<;>first|rfl|simp[Value.oneCell'] at h
 refine⟨by simp[hc],by simp[hc,h],by simp[hc,Jo]⟩
structure Ty where
 n:Nat
 agg:Bool
 ok:HV->arH->Prop
 mono:∀{H H':HV} {v:arH},HV.le H H'->ok H v->ok H' v
 shape:∀{H:HV} {v:arH},ok H v->Shape n agg v
def TEq(v:arH)(h:v.oneCell'=true):Ty where
 n:=1
 agg:=false
 ok:=fun _ x=>x=v
 mono:=fun _ h=>h
 shape:=fun e=>by subst e;exact Shape.one h
def TI(k:IntKind)(n:Int):Ty:=TEq (.int k n) rfl
def bj(b:Bool):Ty:=TEq (.bool b) rfl
def U7(s:ByteArray):Ty:=TEq (.string s) rfl
@[simp] theorem ad8{k:IntKind}{n:Int}:(TI k n).ok H v↔v= .int k n:=Iff.rfl
@[simp] theorem anw{b:Bool}:(bj b).ok H v↔v= .bool b:=Iff.rfl
@[simp] theorem an8{b:ByteArray}:(U7 b).ok H v↔v= .string b:=Iff.rfl
def vH(H:HV):att Ty->att arH->Prop
 |[],cs=>cs=[]
 |τ::l,cs=>∃v rest,cs=v.cells.toList++rest/\τ.ok H v/\vH H l rest
def cc(l:att Ty):Nat:=(l.map (·.n)).sum
@[simp] theorem WU:cc []=0:=rfl
@[simp] theorem Em(τ:Ty)(l:att Ty):cc (τ::l)=τ.n+cc l:=by simp[cc]
def uL{H H':HV}(h:HV.le H H'):∀{l:att Ty} {cs:att arH},vH H l cs->vH H' l cs
 |[],_,e=>e
 |_::_,_,⟨v,rest,e,hv,hr⟩=>⟨v,rest,e,Ty.mono _ h hv,uL h hr⟩
def rf{H:HV}:∀{l:att Ty} {cs:att arH},vH H l cs->cs.length=cc l
 |[],_,e=>by subst e;rfl
 |τ::l,_,⟨v,rest,e,hv,hr⟩=>by
  subst e;have:=rf hr;have hs:=(τ.shape hv).size;simp[this,hs]
def xn{H:HV}:∀{l:att Ty} {cs:att arH},vH H l cs->∀c∈cs,c.oneCell'=true
 |[],_,e=>by subst e;simp
 |τ::l,_,⟨v,rest,e,hv,hr⟩=>by
  subst e;intro c hc;rcases bN.1 hc with h|h
  ·exact(τ.shape hv).cell c h
  ·exact xn hr c h
def qz{H:HV}:∀{l:att Ty} {cs:att arH} {l':att Ty} {zJ:att arH},vH H l cs->vH H l' zJ->vH H (l++l') (cs++zJ)
 |[],_,_,_,e,h=>by subst e;simpa using h
 |_::_,_,_,_,⟨v,rest,e,hv,hr⟩,h=>by
  subst e;exact⟨v,_,by simp,hv,qz hr h⟩
def pz{H:HV}:∀{l:att Ty} {cs:att arH} {i:Nat} {τ:Ty},vH H l cs->l[i]? =some τ->
  cc (l.take i)+τ.n<=cs.length/\τ.ok H (Jo τ.agg ((cs.drop<|cc<|l.take i).take τ.n).toArray)
 |[],_,i,_,_,h=>by simp at h
 |σ::l,_,0,τ,⟨v,rest,e,hv,hr⟩,h=>by
  simp at h;subst h;subst e;have hs:=σ.shape hv;refine⟨by simp[hs.size],?_⟩;have:(List.take σ.n<|v.cells.toList++rest).toArray=v.cells:=by
   rw[<-hs.size,<-gF,Ls]
  simpa[this,<-hs.eq] using hv
 |σ::l,_,i+1,τ,⟨v,rest,e,hv,hr⟩,h=>by
  simp at h;subst e;have hs:=σ.shape hv;obtain⟨h1,h2⟩:=pz hr h;have hd:List.drop (σ.n+cc (List.take i l)) (v.cells.toList++rest)=List.drop (cc<|List.take i l) rest:=by
   rw[<-hs.size,<-gF,vh];simp
  refine⟨?_,?_⟩
  ·simp[hs.size];omega
  ·simp only[LH,Em,hd];exact h2
def Ch{H:HV}:∀{l:att Ty} {cs:att arH} {i:Nat} {τ σ:Ty} {x:arH},vH H l cs->l[i]? =some τ->σ.n=τ.n->σ.ok H x->
  vH H (l.set i σ) (cs.take (cc<|l.take i)++x.cells.toList++cs.drop (cc (l.take i)+τ.n))
 |[],_,i,_,_,_,_,h,_,_=>by simp at h
 |ρ::l,_,0,τ,σ,x,⟨v,rest,e,hv,hr⟩,h,hn,hx=>by
  simp at h;subst h;subst e;have hs:=ρ.shape hv;have hd:List.drop ρ.n (v.cells.toList++rest)=rest:=by
   rw[<-hs.size,<-gF,ES]
  simp only[List.set_cons_zero,List.take_zero,WU,vd,qL,hd];exact⟨x,rest,rfl,hx,hr⟩
 |ρ::l,_,i+1,τ,σ,x,⟨v,rest,e,hv,hr⟩,h,hn,hx=>by
  simp at h;subst e;have hs:=ρ.shape hv;have ih:=Ch hr h hn hx;have h1:List.take (ρ.n+cc (List.take i l)) (v.cells.toList++rest)=v.cells.toList++List.take (cc<|List.take i l) rest:=by
   rw[<-hs.size,<-gF,Ia];simp[eF]
  have h2:List.drop (ρ.n+cc (List.take i l)+τ.n) (v.cells.toList++rest)=List.drop (cc (List.take i l)+τ.n) rest:=by
   rw[<-hs.size,<-gF,rR,vh];simp
  simp only[List.set_cons_succ,LH,Em,h1,h2];exact⟨v,_,by simp,hv,ih⟩
def ko(l:att Ty):Ty where
 n:=cc l
 agg:=true
 ok:=fun H v=>∃cs,v= .agg cs/\vH H l cs.toList
 mono:=fun h ⟨cs,e,k⟩=>⟨cs,e,uL h k⟩
 shape:=fun⟨cs,e,k⟩=>by
  subst e;exact⟨by simpa[Value.cells] using rf k,by simpa[Value.cells] using xn k,rfl⟩
def Ce(H:HV):att Ty->att arH->Prop
 |[],vs=>vs=[]
 |τ::l,vs=>∃v rest,vs=v::rest/\τ.ok H v/\Ce H l rest
def DQ{H H':HV}(h:HV.le H H'):∀{l:att Ty} {vs:att arH},Ce H l vs->Ce H' l vs
 |[],_,e=>e
 |_::_,_,⟨v,rest,e,hv,hr⟩=>⟨v,rest,e,Ty.mono _ h hv,DQ h hr⟩
def abR{H:HV}:∀{l:att Ty} {vs:att arH} {i:Nat} {τ:Ty},Ce H l vs->l[i]? =some τ->∃v,vs[i]? =some v/\τ.ok H v
 |[],_,i,_,_,h=>by simp at h
 |_::_,_,0,_,⟨v,rest,e,hv,_⟩,h=>by simp at h;subst h;subst e;exact⟨v,rfl,hv⟩
 |_::_,_,i+1,_,⟨v,rest,e,_,hr⟩,h=>by simp at h;subst e;simpa using abR hr h
def Aa{H:HV}:∀{l:att Ty} {vs:att arH},Ce H l vs->vs.length=l.length
 |[],_,e=>by subst e;rfl
 |_::_,_,⟨v,rest,e,_,hr⟩=>by subst e;simp[Aa hr]
def Df(τ:Ty):Ty where
 n:=1
 agg:=false
 ok:=fun H v=>∃b off cs E fr,v= .pointer (some ⟨b,off,none⟩)/\H b=some (.cells cs E fr)/\off+τ.n<=cs.size/\
  τ.ok H (Jo τ.agg ((cs.toList.drop off).take τ.n).toArray)
 mono:=fun h ⟨b,off,cs,E,fr,e,hb,hl,k⟩=>⟨b,off,cs,E,fr,e,h _ _ hb,hl,τ.mono h k⟩
 shape:=fun⟨_,_,_,_,_,e,_⟩=>by subst e;exact Shape.one rfl
def Fj(l:att Ty):Ty where
 n:=1
 agg:=false
 ok:=fun H v=>∃ad cap,v= .slice ad l.length cap/\l.length<=cap/\
  (l≠[]->∃b off cs E fr,ad=some ⟨b,off,none⟩/\H b=some (.cells cs E fr)/\off+cc l<=cs.size/\vH H l ((cs.toList.drop off).take<|cc l))
 mono:=fun h ⟨ad,cap,e,hc,k⟩=>⟨ad,cap,e,hc,fun hl=>by
  obtain⟨b,off,cs,E,fr,e1,hb,hs,ho⟩:=k hl;exact⟨b,off,cs,E,fr,e1,h _ _ hb,hs,uL h ho⟩⟩
 shape:=fun⟨_,_,e,_,_⟩=>by subst e;exact Shape.one rfl
def TEx{α:Type}(n:Nat)(agg:Bool)(p:α->Prop)(τ:α->Ty)(hn:∀a,(τ a).n=n)(ha:∀a,(τ a).agg=agg):Ty where
 n:=n
 agg:=agg
 ok:=fun H v=>∃a,p a/\(τ a).ok H v
 mono:=fun h ⟨a,pa,k⟩=>⟨a,pa,(τ a).mono h k⟩
 shape:=fun⟨a,_,k⟩=>by have:=(τ a).shape k;rw[hn,ha] at this;exact this
def okM(H:HV):Nat->att (Ty×Ty)->att MapEntry->Prop
 |_,[],[]=>True
 |i,(k,e)::l,x::xs=>k.ok H x.key/\e.ok H x.val/\x.born=i/\okM H (i+1) l xs
 |_,_,_=>False
def M6{H H':HV}(h:HV.le H H'):∀{i:Nat} {l:att (Ty×Ty)} {es:att MapEntry},okM H i l es->okM H' i l es
 |_,[],[],_=>trivial
 |_,[],_::_,k=>k.elim
 |_,(_,_)::_,[],k=>k.elim
 |_,(k,e)::_,_::_,⟨h1,h2,h3,h4⟩=>⟨k.mono h h1,e.mono h h2,h3,M6 h h4⟩
def ad6(L:att (Ty×Ty)):Ty where
 n:=1
 agg:=false
 ok:=fun H v=>∃r es,v= .map (some r)/\H r=some (.map es es.size)/\okM H 0 L es.toList
 mono:=fun h ⟨r,es,e,hr,k⟩=>⟨r,es,e,h _ _ hr,M6 h k⟩
 shape:=fun⟨_,_,e,_,_⟩=>by subst e;exact Shape.one rfl
end
section
variable{P:Program}
variable[D:DR]
variable{w:arG}{H:HV}{B:ar P}{v:arH}{a:Act}{w':arG}{H':HV}{b:Nat}{Eb:ato}{w0:ar P}{H0:HV}{N d:Nat}{B':ar P}{E:ato}{l:att Ty}
structure Far(n:Nat)(own:Nat->Prop)(w:arG)(H:HV)(w':arG)(H':HV):Prop where
 size:w.heap.size<=w'.heap.size
 os:w'.os=w.os
 tape:w'.tape=w.tape
 output:w'.output=w.output
 drawn:JQ w w'
 le:HV.le H H'
 mH:∀b,b<w.heap.size->(b<n\/own b)->w'.heap[b]? =w.heap[b]?
 view:∀b,b<w.heap.size->(b<n\/own b)->H' b=H b
 sub:∀r o,H' r=some o->w'.heap[r]? =some o
def Far.imp{n m:Nat}{p q:Nat->Prop}{w w':arG}{H H':HV}(h:Far n p w H w' H')(hm:m<=n)(hq:∀b,q b->p b):Far m q w H w' H':=
 ⟨h.size,h.os,h.tape,h.output,h.drawn,h.le,fun b hb k=>h.mH b hb<|k.imp (fun x=>nT x hm)<|hq b,fun b hb k=>h.view b hb<|k.imp (fun x=>nT x hm)<|hq b,h.sub⟩
def MY:Obj->Prop
 | .deferred _=>False
 |_=>True
structure Inv where
 n:Nat
 M:Nat->Prop
 p:arG->HV->Prop
 lt:∀{w:arG} {H:HV} {b:Nat},p w H->M b->b<w.heap.size/\H b=none/\∃o,w.heap[b]? =some o/\MY o
 step:∀{w w':arG} {H H':HV},p w H->Far n M w H w' H'->p w' H'
inductive si where
 |val(τ:Ty)
 |buf(l:att Ty)
 |any
inductive lE where
 |val(τ:Ty)
 |any(n:Nat)(agg:Bool)
 |sm(u:Nat)
 |buf(E:ato)(sz:Nat)(l:att Ty)
 |map(K E:ato)(Eb:ato)(sz:Nat)(mB:att (Ty×si))
inductive bO where
 |val(τ:Ty)
 |Vb(l:att Ty)
 |own(T:ato)(τ:Ty)
 |ptr(t off:Nat)
 |opt(c:Bool)(s:bO)
 |same(t:Nat)
 |Dd(t j sz:Nat)
 |bpf(t off:Nat)
 |gone
 |buf(E:ato)(sz:Nat)(l:att Ty)
 |KG(x:arH)(E:ato)(sz:Nat)(l:att Ty)
 |vW(T:ato)(agg:Bool)(ps:att lE)
 |Jl(K E:ato)(Eb:ato)(sz:Nat)(mB:att (Ty×si))
 |Rq(Eb:ato)(sz:Nat)(l:att Ty)(i:Nat)
 |inv(I:Inv)
 |Sf(t:Nat)(v:arH)
 |l7(l:Nat)(rc:Loop)
 |tR(L:att (Ty×Ty))(seen:att Nat)
 |vec(k:av8 FuncId)(us:att Nat)
 |SM(t:Nat)(i:Int)
 |N5(T E:ato)(l:att Ty)
 |pR(E:ato)(pre post:att arH)(l:att Ty)
 |win(t j n sz:Nat)
 |IX(t i sz:Nat)
def bh(a:Act)(t:Nat):arH:=a.tmps.getD t undef
def aa2(a:Act)(k:av8 FuncId)(us:att Nat):arH:=match k with
 |none=> .agg (us.map<|bh a).toArray
 |some f=> .func (.func f) #[] (us.map<|bh a).toArray
def xX(B:ar P)(w:arG)(H:HV)(E:ato)(sz:Nat)(l:att Ty)(v:arH):Prop:=
 ∃xs,w.ownsRow 0 E sz v l.length xs/\vH H l xs/\∀b,v.ownBlock=some b->H b=none/\B.nX b
def si.holds(B:ar P)(w:arG)(H:HV)(Eb:ato)(sz:Nat)(v:arH):si->Prop
 | .val τ=>τ.ok H v
 | .buf l=>xX B w H Eb sz l v
 | .any=>True
def si.owns(v:arH)(b:Nat):si->Prop
 | .buf _=>v.ownBlock=some b
 |_=>False
def Sg(B:ar P)(w:arG)(H:HV)(Eb:ato)(sz:Nat):Nat->att (Ty×si)->att MapEntry->Prop
 |_,[],[]=>True
 |i,(k,e)::l,x::xs=>k.ok H x.key/\e.holds B w H Eb sz x.val/\x.born=i/\Sg B w H Eb sz (i+1) l xs
 |_,_,_=>False
def qx(b:Nat):att (Ty×si)->att MapEntry->Prop
 |(_,e)::l,x::xs=>e.owns x.val b\/qx b l xs
 |_,_=>False
def MK:att (Ty×si)->att MapEntry->Prop
 |(_,e)::l,x::xs=>(∀b,e.owns x.val b-> ¬qx b l xs)/\MK l xs
 |_,_=>True
def HH(B:ar P)(w:arG)(H:HV)(Eb:ato)(sz:Nat)(mB:att (Ty×si))(v:arH):Prop:=
 ∃r es,v= .map (some r)/\w.heap[r]? =some (.map es es.size)/\H r=none/\B.nX r/\Sg B w H Eb sz 0 mB es.toList/\MK mB es.toList
def wL(w:arG)(mB:att (Ty×si))(v:arH)(b:Nat):Prop:=
 v= .map (some b)\/∃r es,v= .map (some r)/\w.heap[r]? =some (.map es es.size)/\qx b mB es.toList
def lE.n:lE->Nat
 | .val τ=>τ.n
 | .any n _=>n
 |_=>1
def lE.agg:lE->Bool
 | .val τ=>τ.agg
 | .any _ a=>a
 |_=>false
def lE.holds(B:ar P)(a:Act)(w:arG)(H:HV)(v:arH):lE->Prop
 | .val τ=>τ.ok H v
 | .any n g=>Shape n g v
 | .sm u=>v=bh a u/\v.oneCell'=true
 | .buf E sz l=>xX B w H E sz l v
 | .map _ _ Eb sz mB=>HH B w H Eb sz mB v
def lE.owns(w:arG)(v:arH)(b:Nat):lE->Prop
 | .buf _ _ _=>v.ownBlock=some b
 | .map _ _ _ _ mB=>wL w mB v b
 |_=>False
def OS(B:ar P)(a:Act)(w:arG)(H:HV):att lE->att arH->Prop
 |[],cs=>cs=[]
 |p::l,cs=>∃v rest,cs=v.cells.toList++rest/\Shape p.n p.agg v/\p.holds B a w H v/\OS B a w H l rest
def lX(w:arG)(b:Nat):att lE->att arH->Prop
 |[],_=>False
 |p::l,cs=>p.owns w (Jo p.agg (cs.take p.n).toArray) b\/lX w b l (cs.drop p.n)
def KB(w:arG):att lE->att arH->Prop
 |[],_=>True
 |p::l,cs=>(∀b,p.owns w (Jo p.agg (cs.take p.n).toArray) b-> ¬lX w b l (cs.drop p.n))/\KB w l (cs.drop p.n)
def bO.holds(B:ar P)(a:Act)(w:arG)(H:HV)(v:arH):bO->Prop
 | .val τ=>τ.ok H v
 | .Vb l=>∃vs,v= .tuple vs/\Ce H l vs.toList
 | .own T τ=>∃b x,v= .pointer (some ⟨b,0,none⟩)/\w.heap[b]? =some (.cells x.cells T (0,0))/\τ.ok H x/\H b=none/\B.nX b
 | .ptr t off=>∃b,bh a t= .pointer (some ⟨b,0,none⟩)/\v= .pointer (some ⟨b,off,none⟩)
 | .opt c s=>(c=true->s.holds B a w H v)/\(c=false->v=undef)
 | .same t=>v=bh a t
 | .Dd t j sz=>∃b len cap,bh a t= .slice (some ⟨b,0,none⟩) len cap/\v= .pointer (some ⟨b,j*sz,none⟩)
 | .bpf t off=>∃b len cap,bh a t= .slice (some ⟨b,0,none⟩) len cap/\v= .pointer (some ⟨b,off,none⟩)
 | .gone=>True
 | .buf E sz l=>xX B w H E sz l v
 | .KG x E sz l=>xX B w H E sz l x
 | .vW T _ ps=>∃b cs,v= .pointer (some ⟨b,0,none⟩)/\w.heap[b]? =some (.cells cs T (0,0))/\H b=none/\B.nX b/\OS B a w H ps cs.toList/\KB w ps cs.toList/\ ¬lX w b ps cs.toList
 | .Jl _ _ Eb sz mB=>HH B w H Eb sz mB v
 | .Rq Eb sz l i=>∃x,v= .tuple #[x,.int .i64 i]/\xX B w H Eb sz l x
 | .inv I=>I.p w H/\I.n=B.lo
 | .Sf t x=>bh a t=x
 | .l7 l rc=>w.heap[l]? =some (.loop rc)/\H l=none/\B.nX l
 | .vec k us=>v=aa2 a k us
 | .SM t i=>∃x,bh a t= .tuple #[x,.int .i64 i]
 | .pR E pre post l=>∃g c cur xs,v= .slice (some ⟨g,pre.length,none⟩) l.length c/\w.heap[g]? =some (.cells cur E (0,0))/\cur.toList=pre++(xs++post)/\vH H l xs/\H g=none/\B.nX g
 | .win t j n sz=>∃g len cap c,bh a t= .slice (some ⟨g,0,none⟩) len cap/\v= .slice (some ⟨g,j*sz,none⟩) n c
 | .IX t i sz=>∃g o n c,bh a t= .slice (some ⟨g,o,none⟩) n c/\v= .pointer (some ⟨g,o+i*sz,none⟩)
 | .N5 T E l=>∃b p r,v= .pointer (some ⟨b,0,none⟩)/\w.heap[b]? =some (.cells #[p,r] T (0,0))/\(p= .pointer none\/p= .pointer (some ⟨b,0,none⟩))/\H b=none/\B.nX b/\xX B w H E 1 l r/\r.ownBlock≠some b
 | .tR L seen=>∃r m es sn,v= .pointer (some ⟨r,0,none⟩)/\w.heap[r]? =some (.mapIter (some m) es.size sn es.size)/\H r=none/\B.nX r/\H m=some (.map es es.size)/\okM H 0 L es.toList/\sn.toList=seen
def bO.owns(w:arG)(v:arH)(b:Nat):bO->Prop
 | .own _ _=>∃ad,v= .pointer (some ad)/\ad.block=b
 | .buf _ _ _=>v.ownBlock=some b
 | .KG x _ _ _=>x.ownBlock=some b
 | .opt c s=>c=true/\s.owns w v b
 | .vW T _ ps=>∃c,v= .pointer (some ⟨c,0,none⟩)/\(b=c\/∃cs,w.heap[c]? =some (.cells cs T (0,0))/\lX w b ps cs.toList)
 | .Jl _ _ _ _ mB=>wL w mB v b
 | .Rq _ _ _ _=>∃x i,v= .tuple #[x,i]/\x.ownBlock=some b
 | .inv I=>I.M b
 | .l7 l _=>b=l
 | .tR _ _=>∃ad,v= .pointer (some ad)/\ad.block=b
 | .pR _ _ _ _=>v.ownBlock=some b
 | .N5 T _ _=>∃c,v= .pointer (some ⟨c,0,none⟩)/\(b=c\/∃p r,w.heap[c]? =some (.cells #[p,r] T (0,0))/\r.ownBlock=some b)
 |_=>False
def G5:att lE->att Nat
 |[]=>[]
 | .sm u::l=>u::G5 l
 |_::l=>G5 l
def bO.c6:bO->att Nat
 | .ptr t _=>[t]
 | .same t=>[t]
 | .Dd t _ _=>[t]
 | .bpf t _=>[t]
 | .opt _ s=>s.c6
 | .vW _ _ ps=>G5 ps
 | .Sf t _=>[t]
 | .vec _ us=>us
 | .SM t _=>[t]
 | .win t _ _ _=>[t]
 | .IX t _ _=>[t]
 |_=>[]
abbrev Ctx:=att<|Nat×bO
def Marks(B:ar P)(w:arG)(H:HV):att Deferred->Prop
 |[]=>True
 |d::ds=>(∃D,d={target:= .collected D,args:= #[]}/\(B.rd=none->B.n<=D)/\w.heap[D]? =some (.deferred<|some [])/\H D=none/\∀e∈ds,e≠d)/\Marks B w H ds
def Marks.kept{B:ar P}{w w':arG}{H H':HV}:∀{ds:att Deferred},Marks B w H ds->(∀D,({target:= .collected D,args:= #[]}:Deferred)∈ds->w.heap[D]? =some (.deferred<|some [])->H D=none->w'.heap[D]? =some (.deferred<|some [])/\H' D=none)->Marks B w' H' ds
 |[],_,_=>trivial
 |_::_,⟨⟨D,e,h1,h2,h3,h4⟩,r⟩,k=>⟨⟨D,e,h1,(k D (by simp[e]) h2 h3).1,(k D (by simp[e]) h2 h3).2,h4⟩,r.kept fun D hD=>k D<|cW _ hD⟩
structure Sat(w0:ar P)(H0:HV)(N:Nat)(Γ:Ctx)(a:Act)(w:arG)(H:HV):Prop where
 nd:Marks w0 w H (a.defers++w0.ds)
 sz:a.tmps.size=N
 below:Kept w0 w
 Jm:w0.OG=false->∀r,r<w0.n-> ¬w0.X r->H r=H0 r
 sub:∀r o,H r=some o->w.heap[r]? =some o
 holds:∀p∈Γ,p.2.holds w0 a w H<|bh a p.1
 sep:∀p∈Γ,∀q∈Γ,p.1≠q.1->∀b,p.2.owns w (bh a p.1) b-> ¬q.2.owns w (bh a q.1) b
 gl:qU P H
def Sat.weaken{Γ aA:Ctx}(h:Sat w0 H0 N Γ a w H)(hs:∀p∈aA,p∈Γ):Sat w0 H0 N aA a w H:=
 {h with holds:=fun p hp=>h.holds p<|hs p hp,sep:=fun p hp q hq=>h.sep p (hs p hp) q (hs q hq)}
def xQ(sub:∀r o,H r=some o->w.heap[r]? =some o){r:Nat}{o:Obj}(h:H r=some o):r<w.heap.size:=
 (Ba.1<|sub r o h).1
structure Ext(w:arG)(H:HV)(w':arG)(H':HV):Prop where
 below:Ex w.heap.size w w'
 le:HV.le H H'
 Jm:∀r,r<w.heap.size->H' r=H r
 sub:∀r o,H' r=some o->w'.heap[r]? =some o
def Ext.refl{w:arG}{H:HV}(sub:∀r o,H r=some o->w.heap[r]? =some o):Ext w H w H:=
 ⟨Ex.refl _ _,HV.le.refl _,fun _ _=>rfl,sub⟩
def Ext.Vi(h:Ext w H w' H')(n:Nat)(p:Nat->Prop):Far n p w H w' H':=
 ⟨h.below.size,h.below.os,h.below.tape,h.below.output,h.below.drawn,h.le,fun b hb _=>h.below.block b hb,fun b hb _=>h.Jm b hb,h.sub⟩
def Ext.grown(sub:∀r o,H r=some o->w.heap[r]? =some o)(hb:Ex w.heap.size w w'):Ext w H w' (grow H w w'):=by
 refine⟨hb,?_,?_,?_⟩
 ·intro r o h;have:=xQ sub h;simp[grow,this,h]
 ·intro r h;simp[grow,h]
 ·intro r o h;by_cases hr:r<w.heap.size
  ·simp[grow,hr] at h;rw[hb.block r hr];exact sub r o h
  ·simpa[grow,hr] using h
def Ext.alloc{w:arG}{H:HV}(sub:∀r o,H r=some o->w.heap[r]? =some o)(o:Obj):Ext w H (w.alloc o) H:=by
 refine⟨Ex.alloc _,HV.le.refl _,fun _ _=>rfl,?_⟩;intro r x h;have:=xQ sub h;rw[heap_alloc_old w o this];exact sub r x h
def aee(B:ar P)(w:arG)(H:HV)(b:Nat):Prop:=b<w.heap.size/\B.nX b/\H b=none/\∃o,w.heap[b]? =some o/\MY o
def lt_of_heap{o:Obj}(h:w.heap[b]? =some o):b<w.heap.size:=(Ba.1 h).1
def jS{sz:Nat}(h:xX B w H E sz l v)(hb:v.ownBlock=some b):aee B w H b:=by
 obtain⟨xs,hr,ho,hn⟩:=h;refine⟨(hr.lt b hb).2,(hn b hb).2,(hn b hb).1,?_⟩;obtain⟨_,(⟨e,_⟩|⟨g,cap,cur,e,_,hc,_⟩)⟩:=hr
 ·subst e;simp[Value.ownBlock] at hb
 ·subst e;simp[Value.ownBlock] at hb;subst hb;exact⟨_,hc,trivial⟩
def PH{B:ar P}{w:arG}{H:HV}{Eb:ato}{sz:Nat}{b:Nat}:∀{i:Nat} {l:att (Ty×si)} {es:att MapEntry},Sg B w H Eb sz i l es->qx b l es->aee B w H b
 |_,[],_,_,h=>by simp[qx] at h
 |_,(_,_)::_,[],_,h=>by simp[qx] at h
 |i,(k,e)::l,x::xs,⟨_,he,_,hr⟩,h=>by
  rcases h with h|h
  ·cases e with
   |val τ=>exact h.elim
   |any=>exact h.elim
   |buf l=>exact jS he h
  ·exact PH hr h
def Ac{sz:Nat}{mB:att (Ty×si)}(h:HH B w H Eb sz mB v)(hb:wL w mB v b):aee B w H b:=by
 obtain⟨r,es,e,hr,hn,hm,ho,hs⟩:=h;subst e;rcases hb with hb|⟨r',NL,e',Ug,hb⟩
 ·cases hb;exact⟨lt_of_heap hr,hm,hn,_,hr,trivial⟩
 ·cases e';rw[hr] at Ug;cases Ug;exact PH ho hb
def abE:∀{p:lE},p.holds B a w H v->p.owns w v b->aee B w H b
 | .val _,_,h=>h.elim
 | .any _ _,_,h=>h.elim
 | .sm _,_,h=>h.elim
 | .buf _ _ _,k,h=>jS k h
 | .map _ _ _ _ _,k,h=>Ac k h
def pA{p:lE}{rest:att arH}(h:Shape p.n p.agg v):Jo p.agg ((v.cells.toList++rest).take p.n).toArray=v/\(v.cells.toList++rest).drop p.n=rest:=by
 have hs:=h.size;constructor
 ·have:(List.take p.n<|v.cells.toList++rest).toArray=v.cells:=by
   rw[<-hs,<-gF,Ls]
  rw[this];exact h.eq.symm
 ·rw[<-hs,<-gF,ES]
def ra{B:ar P}{a:Act}{w:arG}{H:HV}{b:Nat}:∀{ps:att lE} {cs:att arH},OS B a w H ps cs->lX w b ps cs->aee B w H b
 |[],_,_,h=>h.elim
 |p::l,_,⟨v,rest,e,pt,hv,hr⟩,h=>by
  subst e;obtain⟨e1,e2⟩:=pA (rest:=rest) pt;rcases h with h|h
  ·rw[e1] at h;exact abE hv h
  ·rw[e2] at h;exact ra hr h
def bO.oq{B:ar P}{a:Act}{w:arG}{H:HV}{v:arH}{b:Nat}:∀{s:bO},s.holds B a w H v->s.owns w v b->b<w.heap.size/\H b=none/\∃o,w.heap[b]? =some o/\MY o
 | .val _,_,h=>h.elim
 | .Vb _,_,h=>h.elim
 | .ptr _ _,_,h=>h.elim
 | .same _,_,h=>h.elim
 | .Dd _ _ _,_,h=>h.elim
 | .bpf _ _,_,h=>h.elim
 | .gone,_,h=>h.elim
 | .Sf _ _,_,h=>h.elim
 | .vec _ _,_,h=>h.elim
 | .SM _ _,_,h=>h.elim
 | .own T τ,⟨c,x,e,hb,hx,hn,hB⟩,⟨ad,e',h⟩=>by
  subst e;cases e';cases h;exact⟨lt_of_heap hb,hn,_,hb,trivial⟩
 | .buf _ _ _,h,k=>⟨(jS h k).1,(jS h k).2.2⟩
 | .KG _ _ _ _,h,k=>⟨(jS h k).1,(jS h k).2.2⟩
 | .vW T _ ps,⟨c,cs,e,hb,hn,hB,ho,hs,hx⟩,⟨c',e',h⟩=>by
  subst e;cases e';rcases h with h|⟨zJ,ju,h⟩
  ·subst h;exact⟨lt_of_heap hb,hn,_,hb,trivial⟩
  ·rw[hb] at ju;cases ju;exact⟨(ra ho h).1,(ra ho h).2.2⟩
 | .Jl _ _ _ _ _,h,k=>⟨(Ac h k).1,(Ac h k).2.2⟩
 | .Rq _ _ _ _,⟨x,e,h⟩,⟨x',i',e',k⟩=>by
  rw[e] at e';cases e';exact⟨(jS h k).1,(jS h k).2.2⟩
 | .opt c s,h,⟨hc,k⟩=>bO.oq (s:=s) (h.1 hc) k
 | .inv I,⟨h,_⟩,k=>I.lt h k
 | .l7 l _,⟨h,h2,h3⟩,k=>by
  have k:b=l:=k;subst k;exact⟨lt_of_heap h,h2,_,h,trivial⟩
 | .tR _ _,⟨r,m,es,sn,e,h1,h2,_⟩,⟨ad,e',h⟩=>by
  subst e;cases e';cases h;exact⟨lt_of_heap h1,h2,_,h1,trivial⟩
 | .win _ _ _ _,_,h=>h.elim
 | .IX _ _ _,_,h=>h.elim
 | .pR _ _ _ _,⟨g,c,cur,xs,e,hb,_,_,hn,_⟩,h=>by
  subst e;cases h;exact⟨lt_of_heap hb,hn,_,hb,trivial⟩
 | .N5 _ _ _,⟨c,p,r,e,hb,_,hn,_,ho,_⟩,⟨c',e',h⟩=>by
  subst e;cases e';rcases h with h|⟨p',r',ju,h⟩
  ·subst h;exact⟨lt_of_heap hb,hn,_,hb,trivial⟩
  ·have e2:=hb.symm.trans ju;simp at e2;obtain⟨rfl,rfl⟩:=e2;exact⟨(jS ho h).1,(jS ho h).2.2⟩
def EE{sz:Nat}(h:xX B w H E sz l v)(hle:HV.le H H')
 (hk:∀b,v.ownBlock=some b->w'.heap[b]? =w.heap[b]? /\H' b=H b):xX B w' H' E sz l v:=by
 obtain⟨xs,⟨hl,hr⟩,ho,hn⟩:=h;refine⟨xs,⟨hl,?_⟩,uL hle ho,fun b hb=>⟨by rw[(hk b hb).2];exact(hn b hb).1,(hn b hb).2⟩⟩;rcases hr with hr|⟨g,cap,cur,e,h1,hc,h2⟩
 ·exact .inl hr
 ·refine .inr ⟨g,cap,cur,e,h1,?_,h2⟩;rw[(hk g (by rw[e];rfl)).1];exact hc
def Ri{B:ar P}{w w':arG}{H H':HV}{Eb:ato}{sz:Nat}(hle:HV.le H H'):∀{i:Nat} {l:att (Ty×si)} {es:att MapEntry},Sg B w H Eb sz i l es->
  (∀b,qx b l es->w'.heap[b]? =w.heap[b]? /\H' b=H b)->Sg B w' H' Eb sz i l es
 |_,[],[],_,_=>trivial
 |_,[],_::_,h,_=>h.elim
 |_,(_,_)::_,[],h,_=>h.elim
 |i,(k,e)::l,x::xs,⟨hk,he,hb,hr⟩,hx=>by
  refine⟨k.mono hle hk,?_,hb,Ri hle hr fun b h=>hx b<| .inr h⟩;cases e with
  |val τ=>exact τ.mono hle he
  |any=>trivial
  |buf l=>exact EE he hle fun b h=>hx b<| .inl h
def XM{sz:Nat}{mB:att (Ty×si)}(h:HH B w H Eb sz mB v)(hle:HV.le H H')
 (hk:∀b,wL w mB v b->w'.heap[b]? =w.heap[b]? /\H' b=H b):HH B w' H' Eb sz mB v/\∀b,wL w' mB v b↔wL w mB v b:=by
 obtain⟨r,es,e,hr,hn,hm,ho,hs⟩:=h;subst e;have k0:=hk r<| .inl rfl
 have Ug:w'.heap[r]? =some (.map es es.size):=by rw[k0.1];exact hr
 refine⟨⟨r,es,rfl,Ug,by rw[k0.2];exact hn,hm,Ri hle ho fun b h=>hk b<| .inr ⟨r,es,rfl,hr,h⟩,hs⟩,fun b=>?_⟩;constructor
 ·rintro(h|⟨r1,es1,e1,h1,h2⟩)
  ·exact .inl h
  ·cases e1;rw[Ug] at h1;cases h1;exact .inr ⟨r,es,rfl,hr,h2⟩
 ·rintro(h|⟨r1,es1,e1,h1,h2⟩)
  ·exact .inl h
  ·cases e1;rw[hr] at h1;cases h1;exact .inr ⟨r,es,rfl,Ug,h2⟩
def abF(hle:HV.le H H'):∀{p:lE},p.holds B a w H v->(∀b,p.owns w v b->w'.heap[b]? =w.heap[b]? /\H' b=H b)->
  p.holds B a w' H' v/\∀b,p.owns w' v b↔p.owns w v b
 | .val τ,h,_=>⟨τ.mono hle h,fun _=>Iff.rfl⟩
 | .any _ _,h,_=>⟨h,fun _=>Iff.rfl⟩
 | .sm _,h,_=>⟨h,fun _=>Iff.rfl⟩
 | .buf _ _ _,h,k=>⟨EE h hle k,fun _=>Iff.rfl⟩
 | .map _ _ _ _ _,h,k=>XM h hle k
def Le{B:ar P}{a:Act}{w w':arG}{H H':HV}(hle:HV.le H H'):∀{ps:att lE} {cs:att arH},OS B a w H ps cs->(∀b,lX w b ps cs->w'.heap[b]? =w.heap[b]? /\H' b=H b)->
  OS B a w' H' ps cs/\(∀b,lX w' b ps cs↔lX w b ps cs)/\(KB w ps cs->KB w' ps cs)
 |[],_,h,_=>⟨h,fun _=>Iff.rfl,fun h=>h⟩
 |p::l,_,⟨v,rest,e,pt,hv,hr⟩,k=>by
  subst e;obtain⟨e1,e2⟩:=pA (rest:=rest) pt;simp only[lX,KB,e1,e2] at k⊢;obtain⟨h1,h2⟩:=abF hle hv fun b h=>k b<| .inl h
  obtain⟨h3,h4,h5⟩:=Le hle hr fun b h=>k b<| .inr h
  refine⟨⟨v,rest,rfl,pt,h1,h3⟩,fun b=>or_congr (h2 b)<|h4 b,fun⟨a1,a2⟩=>⟨fun b hb=>?_,h5 a2⟩⟩;rw[h4];exact a1 b<|(h2 b).1 hb
def bO.kb:bO->Bool
 | .inv _=>true
 | .opt _ s=>s.kb
 |_=>false
def bO.wm{B:ar P}{a:Act}{w w':arG}{H H':HV}{v:arH}{n:Nat}:∀{s:bO},s.holds B a w H v->(s.kb=true->n=B.lo)->Far n (fun b=>s.owns w v b) w H w' H'->s.holds B a w' H' v/\∀b,s.owns w' v b↔s.owns w v b
 | .val τ,h,_,F=>⟨τ.mono F.le h,fun _=>Iff.rfl⟩
 | .Vb _,⟨vs,e,k⟩,_,F=>⟨⟨vs,e,DQ F.le k⟩,fun _=>Iff.rfl⟩
 | .own T τ,⟨b,x,e,hb,hx,hn,hB⟩,_,F=>by
  subst e;have hlt:=lt_of_heap hb;have ho:(bO.own T τ).owns w (.pointer<|some ⟨b,0,none⟩) b:=⟨_,rfl,rfl⟩;exact⟨⟨b,x,rfl,by rw[F.mH b hlt<| .inr ho];exact hb,τ.mono F.le hx,by rw[F.view b hlt<| .inr ho];exact hn,hB⟩,fun _=>Iff.rfl⟩
 | .ptr _ _,h,_,_=>⟨h,fun _=>Iff.rfl⟩
 | .opt c s,h,hi,F=>by
  cases c with
  |false=>exact⟨⟨(fun e=>by cases e),h.2⟩,fun b=>by simp[bO.owns]⟩
  |true=>
   obtain⟨h1,h2⟩:=wm (s:=s) (h.1 rfl) hi<|F.imp (bp _) fun b hb=>⟨rfl,hb⟩
   exact⟨⟨fun _=>h1,h.2⟩,fun b=>by simp only[bO.owns,h2]⟩
 | .same _,h,_,_=>⟨h,fun _=>Iff.rfl⟩
 | .Dd _ _ _,h,_,_=>⟨h,fun _=>Iff.rfl⟩
 | .bpf _ _,h,_,_=>⟨h,fun _=>Iff.rfl⟩
 | .gone,h,_,_=>⟨h,fun _=>Iff.rfl⟩
 | .Sf _ _,h,_,_=>⟨h,fun _=>Iff.rfl⟩
 | .vec _ _,h,_,_=>⟨h,fun _=>Iff.rfl⟩
 | .SM _ _,h,_,_=>⟨h,fun _=>Iff.rfl⟩
 | .buf _ _ _,h,_,F=>⟨EE h F.le fun b hb=>⟨F.mH b (jS h hb).1<| .inr hb,F.view b (jS h hb).1<| .inr hb⟩,fun _=>Iff.rfl⟩
 | .KG _ _ _ _,h,_,F=>⟨EE h F.le fun b hb=>⟨F.mH b (jS h hb).1<| .inr hb,F.view b (jS h hb).1<| .inr hb⟩,fun _=>Iff.rfl⟩
 | .vW T g ps,⟨c,cs,e,hb,hn,hB,ho,hs,hx⟩,_,F=>by
  subst e;have hlt:=lt_of_heap hb;have oc:(bO.vW T g ps).owns w (.pointer<|some ⟨c,0,none⟩) c:=⟨c,rfl,.inl rfl⟩;have op:∀b,lX w b ps cs.toList->(bO.vW T g ps).owns w (.pointer<|some ⟨c,0,none⟩) b:=fun b h=>⟨c,rfl,.inr ⟨cs,hb,h⟩⟩
  have ju:w'.heap[c]? =some (.cells cs T (0,0)):=by rw[F.mH c hlt<| .inr oc];exact hb
  obtain⟨h1,h2,h3⟩:=Le F.le ho fun b h=>⟨F.mH b (ra ho h).1<| .inr<|op b h,F.view b (ra ho h).1<| .inr<|op b h⟩
  refine⟨⟨c,cs,rfl,ju,by rw[F.view c hlt<| .inr oc];exact hn,hB,h1,h3 hs,by rw[h2];exact hx⟩,fun b=>?_⟩;constructor
  ·rintro⟨c',e',h⟩;cases e';rcases h with h|⟨zJ,AF,h⟩
   ·exact⟨c,rfl,.inl h⟩
   ·rw[ju] at AF;cases AF;exact⟨c,rfl,.inr ⟨cs,hb,(h2 b).1 h⟩⟩
  ·rintro⟨c',e',h⟩;cases e';rcases h with h|⟨zJ,AF,h⟩
   ·exact⟨c,rfl,.inl h⟩
   ·rw[hb] at AF;cases AF;exact⟨c,rfl,.inr ⟨cs,ju,(h2 b).2 h⟩⟩
 | .Jl _ _ _ _ _,h,_,F=>XM h F.le fun b hb=>⟨F.mH b (Ac h hb).1<| .inr hb,F.view b (Ac h hb).1<| .inr hb⟩
 | .Rq _ _ _ _,⟨x,e,h⟩,_,F=>by
  subst e;exact⟨⟨x,rfl,EE h F.le fun b hb=>⟨F.mH b (jS h hb).1<| .inr ⟨x,_,rfl,hb⟩,F.view b (jS h hb).1<| .inr ⟨x,_,rfl,hb⟩⟩⟩,fun _=>Iff.rfl⟩
 | .l7 l rc,⟨h,h2,h3⟩,_,F=>⟨⟨by rw[F.mH l (lt_of_heap h)<| .inr rfl];exact h,by rw[F.view l (lt_of_heap h)<| .inr rfl];exact h2,h3⟩,fun _=>Iff.rfl⟩
 | .tR L seen,⟨r,m,es,sn,e,h1,h2,h3,h4,h5,h6⟩,_,F=>by
  subst e;have ho:(bO.tR L seen).owns w (.pointer<|some ⟨r,0,none⟩) r:=⟨_,rfl,rfl⟩;exact⟨⟨r,m,es,sn,rfl,by rw[F.mH r (lt_of_heap h1)<| .inr ho];exact h1,by rw[F.view r (lt_of_heap h1)<| .inr ho];exact h2,h3,F.le _ _ h4,M6 F.le h5,h6⟩,fun _=>Iff.rfl⟩
 | .win _ _ _ _,h,_,_=>⟨h,fun _=>Iff.rfl⟩
 | .IX _ _ _,h,_,_=>⟨h,fun _=>Iff.rfl⟩
 | .pR E pre post l,⟨g,c,cur,xs,e,hb,hc,ho,hn,hB⟩,_,F=>by
  subst e;have oc:(bO.pR E pre post l).owns w (.slice (some ⟨g,pre.length,none⟩) l.length c) g:=rfl;exact⟨⟨g,c,cur,xs,rfl,by rw[F.mH g (lt_of_heap hb)<| .inr oc];exact hb,hc,uL F.le ho,by rw[F.view g (lt_of_heap hb)<| .inr oc];exact hn,hB⟩,fun _=>Iff.rfl⟩
 | .N5 T E l,⟨c,p,r,e,hb,hp,hn,hB,ho,hx⟩,_,F=>by
  subst e;have hlt:=lt_of_heap hb;have oc:(bO.N5 T E l).owns w (.pointer<|some ⟨c,0,none⟩) c:=⟨c,rfl,.inl rfl⟩;have op:∀b,r.ownBlock=some b->(bO.N5 T E l).owns w (.pointer<|some ⟨c,0,none⟩) b:=fun b h=>⟨c,rfl,.inr ⟨p,r,hb,h⟩⟩
  have ju:w'.heap[c]? =some (.cells #[p,r] T (0,0)):=by rw[F.mH c hlt<| .inr oc];exact hb
  have h1:=EE ho F.le fun b h=>⟨F.mH b (jS ho h).1<| .inr<|op b h,F.view b (jS ho h).1<| .inr<|op b h⟩
  refine⟨⟨c,p,r,rfl,ju,hp,by rw[F.view c hlt<| .inr oc];exact hn,hB,h1,hx⟩,fun b=>?_⟩;constructor
  ·rintro⟨c',e',h⟩;cases e';rcases h with h|⟨p',r',AF,h⟩
   ·exact⟨c,rfl,.inl h⟩
   ·exact⟨c,rfl,.inr ⟨p',r',by rw[hb,<-ju];exact AF,h⟩⟩
  ·rintro⟨c',e',h⟩;cases e';rcases h with h|⟨p',r',AF,h⟩
   ·exact⟨c,rfl,.inl h⟩
   ·exact⟨c,rfl,.inr ⟨p',r',by rw[ju,<-hb];exact AF,h⟩⟩
 | .inv I,⟨h,e⟩,hi,F=>by
  have:n=I.n:=by rw[hi rfl,e]
  exact⟨⟨I.step h<|this▸F,e⟩,fun _=>Iff.rfl⟩
def bO.BM{s:bO}(h:s.holds B a w H v)(F:Far B.lo (fun b=>s.owns w v b) w H w' H'):s.holds B a w' H' v/\∀b,s.owns w' v b↔s.owns w v b:=
 bO.wm h (fun _=>rfl) F
def bO.Z5(he:Ext w H w' H'){s:bO}(h:s.holds B a w H v):s.holds B a w' H' v:=(bO.BM h<|he.Vi _ _).1
def bO.Hp(he:Ext w H w' H'){s:bO}(h:s.holds B a w H v)(b:Nat):s.owns w' v b↔s.owns w v b:=(bO.BM h<|he.Vi _ _).2 b
def lM{t:Nat}(h:d≠t):bh (a.put (some d) v) t=bh a t:=by
 simp[bh,Act.put,Array.getElem?_setIfInBounds_ne h]
def ua(h:d<a.tmps.size):bh (a.put (some d) v) d=v:=by
 simp[bh,Act.put,h]
def Cg{B:ar P}{a a':Act}{w:arG}{H:HV}:∀{ps:att lE} {cs:att arH},(∀t∈G5 ps,bh a' t=bh a t)->OS B a w H ps cs->OS B a' w H ps cs
 |[],_,_,h=>h
 |p::l,_,e,⟨v,rest,e1,pt,hv,hr⟩=>by
  cases p with
  |sm u=>exact⟨v,rest,e1,pt,⟨by rw[e u (by simp[G5])];exact hv.1,hv.2⟩,Cg (fun t ht=>e t (by simp[G5,ht])) hr⟩
  |val _=>exact⟨v,rest,e1,pt,hv,Cg e hr⟩
  |any _ _=>exact⟨v,rest,e1,pt,hv,Cg e hr⟩
  |buf _ _ _=>exact⟨v,rest,e1,pt,hv,Cg e hr⟩
  |map _ _ _ _ _=>exact⟨v,rest,e1,pt,hv,Cg e hr⟩
def bO.pP{B:ar P}{a a':Act}{w:arG}{H:HV}{v:arH}:∀{s:bO},(∀t∈s.c6,bh a' t=bh a t)->s.holds B a w H v->s.holds B a' w H v
 | .val _,_,h=>h
 | .Vb _,_,h=>h
 | .own _ _,_,h=>h
 | .ptr t off,e,⟨b,h1,h2⟩=>⟨b,by rw[e t (by simp[bO.c6])];exact h1,h2⟩
 | .opt c s,e,h=>⟨fun hc=>pP (s:=s) e<|h.1 hc,h.2⟩
 | .same t,e,h=>by show v=_;rw[e t (by simp[bO.c6])];exact h
 | .Dd t _ _,e,⟨b,len,cap,h1,h2⟩=>⟨b,len,cap,by rw[e t (by simp[bO.c6])];exact h1,h2⟩
 | .bpf t _,e,⟨b,len,cap,h1,h2⟩=>⟨b,len,cap,by rw[e t (by simp[bO.c6])];exact h1,h2⟩
 | .gone,_,h=>h
 | .buf _ _ _,_,h=>h
 | .KG _ _ _ _,_,h=>h
 | .vW _ _ _,e,⟨c,cs,h1,h2,h3,h4,h5,h6⟩=>⟨c,cs,h1,h2,h3,h4,Cg e h5,h6⟩
 | .Jl _ _ _ _ _,_,h=>h
 | .Rq _ _ _ _,_,h=>h
 | .inv _,_,h=>h
 | .SM t i,e,⟨x,h⟩=>⟨x,by rw[e t (by simp[bO.c6])];exact h⟩
 | .vec k us,e,h=>by
  have:us.map (bh a')=us.map (bh a):=List.map_congr_left e;show v=aa2 a' k us;rw[show aa2 a' k us=aa2 a k us by simp only[aa2,this]];exact h
 | .Sf t _,e,h=>by show bh a' t=_;rw[e t (by simp[bO.c6])];exact h
 | .l7 _ _,_,h=>h
 | .tR _ _,_,h=>h
 | .N5 _ _ _,_,h=>h
 | .pR _ _ _ _,_,h=>h
 | .win t _ _ _,e,⟨g,len,cap,c,h1,h2⟩=>⟨g,len,cap,c,by rw[e t (by simp[bO.c6])];exact h1,h2⟩
 | .IX t _ _,e,⟨g,o,n,c,h1,h2⟩=>⟨g,o,n,c,by rw[e t (by simp[bO.c6])];exact h1,h2⟩
def pj(d:Nat)(Γ:Ctx):Bool:=Γ.all fun p=>p.1 !=d&& !p.2.c6.contains d
def xw{A:Ctx}(h:pj d A=true):∀p∈A,p.1≠d/\d∉p.2.c6:=by
 intro p hp;have:=dI.1 h p hp;simpa using this
def put_defers{d:av8 Tmp}:(a.put d v).defers=a.defers:=by cases d<;>rfl
def J2{Γ:Ctx}(h:Sat w0 H0 N Γ a w H){s:bO}(hd:d<N)(hf:pj d Γ=true)(hl:d∉s.c6)
 (hs:s.holds w0 a w H v)(hfr:∀b,s.owns w v b->∀q∈Γ,¬q.2.owns w (bh a q.1) b):Sat w0 H0 N ((d,s)::Γ) (a.put (some d) v) w H:=by
 have hd':d<a.tmps.size:=h.sz▸hd;have tV:∀p∈Γ,d≠p.1/\d∉p.2.c6:=fun p hp=>⟨fun e=>(xw hf p hp).1 e.symm,(xw hf p hp).2⟩
 refine⟨by rw[put_defers];exact h.nd,by simp[Act.put,h.sz],h.below,h.Jm,h.sub,?_,?_,h.gl⟩
 ·intro p hp;rcases aY.1 hp with e|hp
  ·subst e;simp only[ua hd'];exact bO.pP (fun t ht=>lM<|fun e=>hl<|e▸ht) hs
  ·obtain⟨h1,h2⟩:=tV p hp;rw[lM h1];exact bO.pP (fun t ht=>lM<|fun e=>h2<|e▸ht)<|h.holds p hp
 ·intro p hp q hq hne b hb ju;rcases aY.1 hp with e|hp<;>rcases aY.1 hq with e'|hq
  ·subst e;subst e';exact hne rfl
  ·subst e;simp only[ua hd'] at hb;rw[lM (tV q hq).1] at ju;exact hfr b hb q hq ju
  ·subst e';simp only[ua hd'] at ju;rw[lM (tV p hp).1] at hb;exact hfr b ju p hp hb
  ·rw[lM (tV p hp).1] at hb;rw[lM (tV q hq).1] at ju;exact h.sep p hp q hq hne b hb ju
def Hf{Γ:Ctx}(h:Sat w0 H0 N Γ a w H)(he:Ext w H w' H'):Sat w0 H0 N Γ a w' H':=by
 refine⟨h.nd.kept fun D _ h1 h2=>⟨by rw[he.below.block D<|lt_of_heap h1];exact h1,by rw[he.Jm D<|lt_of_heap h1];exact h2⟩,h.sz,h.below.step he.below,fun hv r hr hx=>?_,he.sub,?_,?_,h.gl.mono he.le⟩
 ·rw[he.Jm r<|nT hr h.below.size,h.Jm hv r hr hx]
 ·intro p hp;exact bO.Z5 he<|h.holds p hp
 ·intro p hp q hq hne b hb ju;exact h.sep p hp q hq hne b ((bO.Hp he (h.holds p hp) b).1 hb)<|(bO.Hp he (h.holds q hq) b).1 ju
def B6{Γ:Ctx}(h:Sat w0 H0 N Γ a w H)(he:Ext w H w' H')
 {s:bO}(hd:d<N)(hf:pj d Γ=true)(hl:d∉s.c6)(hs:s.holds w0 a w' H' v)(hfr:∀b,s.owns w' v b->w.heap.size<=b):
  Sat w0 H0 N ((d,s)::Γ) (a.put (some d) v) w' H':=
 J2 (Hf h he) hd hf hl hs fun b hb q hq ju=>by
  have h1:=hfr b hb;have h2:=(bO.oq (h.holds q hq)<|(bO.Hp he (h.holds q hq) b).1 ju).1;omega
def bO.free:bO->Bool
 | .own _ _=>false
 | .buf _ _ _=>false
 | .KG _ _ _ _=>false
 | .opt _ s=>s.free
 | .vW _ _ _=>false
 | .Jl _ _ _ _ _=>false
 | .Rq _ _ _ _=>false
 | .inv _=>false
 | .l7 _ _=>false
 | .tR _ _=>false
 | .N5 _ _ _=>false
 | .pR _ _ _ _=>false
 |_=>true
def bO.free_spec{w:arG}{v:arH}{b:Nat}:∀{s:bO},s.free=true-> ¬s.owns w v b
 | .val _,_,h=>h
 | .Vb _,_,h=>h
 | .ptr _ _,_,h=>h
 | .same _,_,h=>h
 | .Dd _ _ _,_,h=>h
 | .bpf _ _,_,h=>h
 | .gone,_,h=>h
 | .Sf _ _,_,h=>h
 | .vec _ _,_,h=>h
 | .SM _ _,_,h=>h
 | .opt c s,e,h=>bO.free_spec (s:=s) e h.2
 | .own _ _,e,_=>by cases e
 | .buf _ _ _,e,_=>by cases e
 | .KG _ _ _ _,e,_=>by cases e
 | .vW _ _ _,e,_=>by cases e
 | .Jl _ _ _ _ _,e,_=>by cases e
 | .Rq _ _ _ _,e,_=>by cases e
 | .inv _,e,_=>by cases e
 | .l7 _ _,e,_=>by cases e
 | .tR _ _,e,_=>by cases e
 | .N5 _ _ _,e,_=>by cases e
 | .pR _ _ _ _,e,_=>by cases e
 | .win _ _ _ _,_,h=>h
 | .IX _ _ _,_,h=>h
def Bx{Γ aA:Ctx}{ds:att Deferred}(hs:Sat w0 H0 N Γ a w H)(hk:Kept w0 w')(Yi:JQ w w')
 (hold:w0.OG=false->∀r,r<w0.n-> ¬w0.X r->H' r=H r)(hsz:w.heap.size<=w'.heap.size)(hle:HV.le H H')(dc:∀r o,H' r=some o->w'.heap[r]? =some o)
 (FX:(∃p∈aA,p.2.kb=true)->∀b,b<w.heap.size->b<w0.lo->w'.heap[b]? =w.heap[b]? /\H' b=H b)
 (hp:∀p∈aA,p∈Γ/\∀b,p.2.owns w (bh a p.1) b->w'.heap[b]? =w.heap[b]? /\H' b=H b)(hm:Marks w0 w' H' (ds++w0.ds)):Sat w0 H0 N aA {a with defers:=ds} w' H':=by
 have Vi:∀p∈aA,Far (if p.2.kb then w0.lo else 0) (fun b=>p.2.owns w (bh a p.1) b) w H w' H':=fun p h=>by
  have key:∀b,b<w.heap.size->(b<(if p.2.kb then w0.lo else 0)\/p.2.owns w (bh a p.1) b)->w'.heap[b]? =w.heap[b]? /\H' b=H b:=fun b hb h1=>by
   rcases h1 with h1|h1
   ·cases hi:p.2.kb with
    |true=>rw[hi,if_pos rfl] at h1;exact FX ⟨p,h,hi⟩ b hb h1
    |false=>rw[hi] at h1;simp at h1
   ·exact(hp p h).2 b h1
  exact⟨hsz,hk.os.trans hs.below.os.symm,hk.tape.trans hs.below.tape.symm,hk.output.trans hs.below.output.symm,Yi,hle,fun b hb h1=>(key b hb h1).1,fun b hb h1=>(key b hb h1).2,dc⟩
 have hh:∀p∈aA,p.2.holds w0 a w' H' (bh a p.1)/\∀b,p.2.owns w' (bh a p.1) b↔p.2.owns w (bh a p.1) b:=fun p h=>bO.wm (hs.holds p (hp p h).1) (fun hi=>by rw[hi];rfl)<|Vi p h
 refine⟨hm,hs.sz,hk,fun hv r hr hx=>(hold hv r hr hx).trans<|hs.Jm hv r hr hx,dc,?_,?_,hs.gl.mono hle⟩
 ·exact fun p h=>bO.pP (a:=a) (fun _ _=>rfl) (hh p h).1
 ·exact fun p h q h' hne b hb ju=>hs.sep p (hp p h).1 q (hp q h').1 hne b (((hh p h).2 b).1 hb)<|((hh q h').2 b).1 ju
def By{sz:Nat}(h:xX B w H E sz l v)(hm:∀b,v.ownBlock=some b->B'.nX b):xX B' w H E sz l v:=by
 obtain⟨xs,h1,h2,h3⟩:=h;exact⟨xs,h1,h2,fun b hb=>⟨(h3 b hb).1,hm b hb⟩⟩
def TG{B B':ar P}{w:arG}{H:HV}{Eb:ato}{sz:Nat}:∀{i:Nat} {l:att (Ty×si)} {es:att MapEntry},Sg B w H Eb sz i l es->(∀b,qx b l es->B'.nX b)->Sg B' w H Eb sz i l es
 |_,[],[],_,_=>trivial
 |_,[],_::_,h,_=>h.elim
 |_,(_,_)::_,[],h,_=>h.elim
 |i,(k,e)::l,x::xs,⟨hk,he,hb,hr⟩,hx=>by
  refine⟨hk,?_,hb,TG hr fun b h=>hx b<| .inr h⟩;cases e with
  |val τ=>exact he
  |any=>trivial
  |buf l=>exact By he fun b h=>hx b<| .inl h
def TR{sz:Nat}{mB:att (Ty×si)}(h:HH B w H Eb sz mB v)(hm:∀b,wL w mB v b->B'.nX b):HH B' w H Eb sz mB v:=by
 obtain⟨r,es,e,hr,hn,_,ho,hs⟩:=h;subst e;exact⟨r,es,rfl,hr,hn,hm r<| .inl rfl,TG ho fun b h=>hm b<| .inr ⟨r,es,rfl,hr,h⟩,hs⟩
def TE{B B':ar P}{a:Act}{w:arG}{H:HV}:∀{ps:att lE} {cs:att arH},OS B a w H ps cs->(∀b,lX w b ps cs->B'.nX b)->OS B' a w H ps cs
 |[],_,h,_=>h
 |p::l,_,⟨v,rest,e,pt,hv,hr⟩,k=>by
  subst e;obtain⟨e1,e2⟩:=pA (rest:=rest) pt;simp only[lX,e1,e2] at k;refine⟨v,rest,rfl,pt,?_,TE hr fun b h=>k b<| .inr h⟩;cases p with
  |val _=>exact hv
  |any _ _=>exact hv
  |sm _=>exact hv
  |buf _ _ _=>exact By hv fun b h=>k b<| .inl h
  |map _ _ _ _ _=>exact TR hv fun b h=>k b<| .inl h
def bO.qN{B B':ar P}{a:Act}{w:arG}{H:HV}{v:arH}:∀{s:bO},s.kb=false->s.holds B a w H v->(∀b,s.owns w v b->B'.nX b)->s.holds B' a w H v
 | .val _,_,h,_=>h
 | .Vb _,_,h,_=>h
 | .own _ _,_,⟨b,x,e,h1,h2,h3,_⟩,k=>⟨b,x,e,h1,h2,h3,k b ⟨_,e,rfl⟩⟩
 | .ptr _ _,_,h,_=>h
 | .opt c s,hi,h,k=>⟨fun hc=>bO.qN (s:=s) hi (h.1 hc) fun b hb=>k b ⟨hc,hb⟩,h.2⟩
 | .same _,_,h,_=>h
 | .Dd _ _ _,_,h,_=>h
 | .bpf _ _,_,h,_=>h
 | .gone,_,h,_=>h
 | .buf _ _ _,_,h,k=>By h k
 | .KG _ _ _ _,_,h,k=>By h k
 | .vW _ _ _,_,⟨c,cs,e,hb,hn,_,ho,hs,hx⟩,k=>⟨c,cs,e,hb,hn,k c ⟨c,e,.inl rfl⟩,TE ho fun b h=>k b ⟨c,e,.inr ⟨cs,hb,h⟩⟩,hs,hx⟩
 | .Jl _ _ _ _ _,_,h,k=>TR h k
 | .Rq _ _ _ _,_,⟨x,e,h⟩,k=>⟨x,e,By h fun b hb=>k b ⟨x,_,e,hb⟩⟩
 | .inv _,hi,_,_=>by cases hi
 | .Sf _ _,_,h,_=>h
 | .vec _ _,_,h,_=>h
 | .SM _ _,_,h,_=>h
 | .l7 l _,_,⟨h1,h2,_⟩,k=>⟨h1,h2,k l rfl⟩
 | .tR _ _,_,⟨r,m,es,sn,e,h1,h2,_,h4⟩,k=>⟨r,m,es,sn,e,h1,h2,k r ⟨_,e,rfl⟩,h4⟩
 | .win _ _ _ _,_,h,_=>h
 | .IX _ _ _,_,h,_=>h
 | .pR _ _ _ _,_,⟨g,c,cur,xs,e,hb,hc,ho,hn,_⟩,k=>⟨g,c,cur,xs,e,hb,hc,ho,hn,k g (by rw[e];rfl)⟩
 | .N5 _ _ _,_,⟨c,p,r,e,hb,hp,hn,_,ho,hx⟩,k=>⟨c,p,r,e,hb,hp,hn,k c ⟨c,e,.inl rfl⟩,By ho fun b h=>k b ⟨c,e,.inr ⟨p,r,hb,h⟩⟩,hx⟩
def bO.sw{B:ar P}{a:Act}{w:arG}{H:HV}{v:arH}{b:Nat}:∀{s:bO},s.kb=false->s.holds B a w H v->s.owns w v b->B.nX b
 | .val _,_,_,h=>h.elim
 | .Vb _,_,_,h=>h.elim
 | .ptr _ _,_,_,h=>h.elim
 | .same _,_,_,h=>h.elim
 | .Dd _ _ _,_,_,h=>h.elim
 | .bpf _ _,_,_,h=>h.elim
 | .gone,_,_,h=>h.elim
 | .Sf _ _,_,_,h=>h.elim
 | .vec _ _,_,_,h=>h.elim
 | .SM _ _,_,_,h=>h.elim
 | .own T τ,_,⟨c,x,e,hb,hx,hn,hB⟩,⟨ad,e',h⟩=>by
  subst e;cases e';cases h;exact hB
 | .buf _ _ _,_,h,k=>(jS h k).2.1
 | .KG _ _ _ _,_,h,k=>(jS h k).2.1
 | .vW T _ ps,_,⟨c,cs,e,hb,hn,hB,ho,hs,hx⟩,⟨c',e',h⟩=>by
  subst e;cases e';rcases h with h|⟨zJ,ju,h⟩
  ·subst h;exact hB
  ·rw[hb] at ju;cases ju;exact(ra ho h).2.1
 | .Jl _ _ _ _ _,_,h,k=>(Ac h k).2.1
 | .Rq _ _ _ _,_,⟨x,e,h⟩,⟨x',i',e',k⟩=>by
  rw[e] at e';cases e';exact(jS h k).2.1
 | .opt c s,hi,h,⟨hc,k⟩=>bO.sw (s:=s) hi (h.1 hc) k
 | .inv _,hi,_,_=>by cases hi
 | .l7 l _,_,⟨_,_,h3⟩,k=>by
  have k:b=l:=k;subst k;exact h3
 | .tR _ _,_,⟨r,m,es,sn,e,_,_,h3,_⟩,⟨ad,e',h⟩=>by
  subst e;cases e';cases h;exact h3
 | .win _ _ _ _,_,_,h=>h.elim
 | .IX _ _ _,_,_,h=>h.elim
 | .pR _ _ _ _,_,⟨g,c,cur,xs,e,hb,_,_,hn,hB⟩,h=>by
  subst e;cases h;exact hB
 | .N5 _ _ _,_,⟨c,p,r,e,hb,_,_,hB,ho,_⟩,⟨c',e',h⟩=>by
  subst e;cases e';rcases h with h|⟨p',r',ju,h⟩
  ·subst h;exact hB
  ·have e2:=hb.symm.trans ju;simp at e2;obtain⟨rfl,rfl⟩:=e2;exact(jS ho h).2.1
end
section
variable[D:DR]
variable{d:Nat}
def look:Ctx->Nat->av8 bO
 |[],_=>none
 |(k,s)::Γ,t=>match Nat.beq k t with
  |true=>some s
  |false=>look Γ t
def aF:∀{Γ:Ctx} {t:Nat} {s:bO},look Γ t=some s->(t,s)∈Γ
 |[],_,_,h=>by simp[look] at h
 |(k,s')::Γ,t,s,h=>by
  simp only[look] at h;cases hb:Nat.beq k t
  ·rw[hb] at h;exact cW _<|aF h
  ·rw[hb] at h;have:=fL hb;simp at h;subst this;subst h;simp
def bO.vl(s:bO)(d:Nat):Bool:=s.c6.any fun t=>Nat.beq t d
def CB{s:bO}(h:s.vl d=false):d∉s.c6:=fun hm=>by
 have:=LA.1 h d hm;simp at this
def VX{s:bO}(h:d∉s.c6):s.vl d=false:=by
 refine LA.2 fun t ht=>?_
 simp only[Lz];cases hb:Nat.beq t d
 ·rfl
 ·exact absurd (fL hb▸ht) h
def del(d:Nat):Ctx->Ctx
 |[]=>[]
 |p::Γ=>bif Nat.beq p.1 d||p.2.vl d then del d Γ else p::del d Γ
def rF{d:Nat}:∀{Γ:Ctx},∀p∈del d Γ,p∈Γ
 |[],p,h=>by simp[del] at h
 |q::Γ,p,h=>by
  simp only[del] at h;cases hb:(Nat.beq q.1 d||q.2.vl d)
  ·rw[hb] at h;rcases aY.1 h with e|h
   ·simp[e]
   ·exact cW _<|rF p h
  ·rw[hb] at h;exact cW _<|rF p h
def vr{d:Nat}:∀{Γ:Ctx},pj d (del d Γ)=true
 |[]=>rfl
 |q::Γ=>by
  simp only[del];cases hb:(Nat.beq q.1 d||q.2.vl d)
  ·simp only[a8];have ih:=vr (d:=d) (Γ:=Γ);simp only[pj,ti,bY] at ih⊢;refine⟨?_,ih⟩;simp at hb;refine⟨by simpa using Nat.ne_of_beq_eq_false hb.1,?_⟩;simpa using CB hb.2
  ·simpa using vr (d:=d) (Γ:=Γ)
inductive ye(Γ:Ctx):att Nat->Ctx->Prop where
 |nil:ye Γ [] []
 |cons {t:Nat} {s:bO} {ts:att Nat} {aA:Ctx} (h:look Γ t=some s) (r:ye Γ ts aA):ye Γ (t::ts) ((t,s)::aA)
def ye.sub{Γ:Ctx}{ts:att Nat}{aA:Ctx}(h:ye Γ ts aA):∀p∈aA,p∈Γ:=by
 induction h with
 |nil=>simp
 |cons h _ ih=>
  intro p hp;rcases aY.1 hp with e|hp
  ·subst e;exact aF h
  ·exact ih p hp
def ye.keys{Γ:Ctx}{ts:att Nat}{aA:Ctx}(h:ye Γ ts aA):∀p∈aA,p.1∈ts:=by
 induction h with
 |nil=>simp
 |cons h _ ih=>
  intro p hp;rcases aY.1 hp with e|hp
  ·subst e;simp
  ·exact cW _<|ih p hp
def bR(P:atp)(Γ:Ctx)(o:Oper)(s:bO):Prop:=
 ∀(w0:ar P) (H0:HV) (N:Nat) (a:Act) (w:arG) (H:HV),Sat w0 H0 N Γ a w H->∀(K:Act->arG->Prop) (Q:Exit->Act->arG->Prop),
  (∀v w' H',Ext w H w' H'->s.holds w0 a w' H' v->(∀b,s.owns w' v b->w.heap.size<=b)->K (a.put o.dst v) w')->o.wp P a w K Q
def Step(P:atp)(N:Nat)(ops:awa Oper)(o:Oper)(Γ aA:Ctx):Prop:=
 ∀(w0:ar P) (H0:HV) (a:Act) (w:arG) (H:HV),Sat w0 H0 N Γ a w H->∀(K:Act->arG->Prop) (Q:Exit->Act->arG->Prop),
  (∀a' w' H',Sat w0 H0 N aA a' w' H'->K a' w')->if Region.wanted o (yielded ops a.tmps) then o.wp P a w K Q else K (a.put o.dst undef) w
end
section
variable[D:DR]
variable{P:Program}{N:Nat}{ops:Array Oper}{Γ aA fy wv:Ctx}
variable{d:Nat}{s:bO}{j dj:Nat}{b:Bool}{H0:HV}{a:Act}{H:HV}{e want:Bool}
def Step.pure{o:Oper}(h:bR P Γ o s)(hg:o.guard=none)(hd:o.dst=some d)(hN:d<N)(hf:pj d Γ=true)(hl:s.vl d=false):
  Step P N ops o Γ ((d,s)::Γ):=by
 intro w0 H0 a w H hs K Q k;simp only[Region.wanted,hg,if_true];refine h w0 H0 N a w H hs K Q fun v w' H' he hv hb=>?_
 rw[hd];exact k _ _ _<|B6 hs he hN hf (CB hl) hv hb
def Step.over{o:Oper}(h:bR P Γ o s)(hg:o.guard=none)(hd:o.dst=some d)(hN:d<N)(hl:s.vl d=false):
  Step P N ops o Γ ((d,s)::del d Γ):=by
 intro w0 H0 a w H hs K Q k;simp only[Region.wanted,hg,if_true];refine h w0 H0 N a w H hs K Q fun v w' H' he hv hb=>?_
 rw[hd];exact k _ _ _<|B6 (hs.weaken rF) he hN vr (CB hl) hv hb
def gd(b:Bool):Bool->Bool
 |true=>b
 |false=> !b
def Vk{w0:ar P}{w:arG}(hs:Sat w0 H0 N Γ a w H)(hj:(ops[j]?).bind (·.dst)=some dj)(hl:look Γ dj=some (.val<|bj b))(hN:dj<N):
  yielded ops a.tmps j=some b:=by
 have h:=hs.holds _<|aF hl
 have h:bh a dj= .bool b:=h;have hlt:dj<a.tmps.size:=hs.sz▸hN;simp only[yielded,hj,Option.bind_some];simp[bh,hlt] at h;simp[hlt,h]
def YY{o:Oper}{w0:ar P}{w:arG}(hs:Sat w0 H0 N Γ a w H)(hg:o.guard=some (j,want))(hj:(ops[j]?).bind (·.dst)=some dj)(hl:look Γ dj=some (.val<|bj b))(hN:dj<N):
  Region.wanted o (yielded ops a.tmps)=gd b want:=by
 simp only[Region.wanted,hg,Vk hs hj hl hN];cases b<;>cases want<;>rfl
inductive Dg(Γ:Ctx)(e:Bool):Ctx->Prop where
 |nil:Dg Γ e []
 |v {t:Nat} {s:bO} {aA:Ctx} (h:look Γ t=some s) (r:Dg Γ e aA):Dg Γ e ((t,s)::aA)
 |o {t:Nat} {s:bO} {c:Bool} {aA:Ctx} (h:look Γ t=some (.opt c s)) (k:e=true->c=true) (r:Dg Γ e aA):Dg Γ e ((t,s)::aA)
def Dg.mem{Γ aA:Ctx}(h:Dg Γ e aA)(he:e=true):∀p∈aA,p∈Γ\/(p.1,bO.opt true p.2)∈Γ:=by
 induction h with
 |nil=>simp
 |v h _ ih=>
  intro p hp;rcases aY.1 hp with e|hp
  ·subst e;exact .inl<|aF h
  ·exact ih p hp
 |o h k _ ih=>
  intro p hp;rcases aY.1 hp with e|hp
  ·subst e;have:=k he;subst this;exact .inr<|aF h
  ·exact ih p hp
def Dg.sat{Γ aA:Ctx}(h:Dg Γ e aA)(he:e=true){w0:ar P}{N:Nat}{w:arG}(hs:Sat w0 H0 N Γ a w H):Sat w0 H0 N aA a w H:=by
 have key:∀p∈aA,∃s,(p.1,s)∈Γ/\(s.holds w0 a w H (bh a p.1)->p.2.holds w0 a w H (bh a p.1))/\∀v b,p.2.owns w v b->s.owns w v b:=by
  intro p hp;rcases h.mem he p hp with h|h
  ·exact⟨p.2,h,id,fun _ _ h=>h⟩
  ·exact⟨_,h,fun k=>k.1 rfl,fun v b hb=>⟨rfl,hb⟩⟩
 refine⟨hs.nd,hs.sz,hs.below,hs.Jm,hs.sub,?_,?_,hs.gl⟩
 ·intro p hp;obtain⟨s,h1,h2,_⟩:=key p hp;exact h2<|hs.holds _ h1
 ·intro p hp q hq hne b hb ju;obtain⟨s,h1,_,h3⟩:=key p hp;obtain⟨s',h1',_,h3'⟩:=key q hq;exact hs.sep _ h1 _ h1' hne b (h3 _ _ hb)<|h3' _ _ ju
def opO{eI:Ctx}{o:Oper}(ho:Dg Γ e eI)(h:e=true->bR P eI o s):e=true->bR P Γ o s:=
 fun he w0 H0 N a w H hs K Q k=>h he w0 H0 N a w H (ho.sat he hs) K Q fun v w' H' hx hv hb=>k v w' H' hx hv hb
structure aaG(ops:awa Oper)(N:Nat)(Γ:Ctx)(o:Oper)(e:Bool):Prop where
 w:∀{P':atp} (w0:ar P') (H0:HV) (a:Act) (w:arG) (H:HV),Sat w0 H0 N Γ a w H->Region.wanted o (yielded ops a.tmps)=e
def aaG.v{o:Oper}(hg:o.guard=some (j,want))(hj:(ops[j]?).bind (·.dst)=some dj)(hl:look Γ dj=some (.val<|bj b))(hN:dj<N):aaG ops N Γ o (gd b want):=
 ⟨fun _ _ _ _ _ hs=>YY hs hg hj hl hN⟩
def aaG.o{o:Oper}{j dj:Nat}{b c want:Bool}(hg:o.guard=some (j,want))(hj:(ops[j]?).bind (·.dst)=some dj)(hl:look Γ dj=some (.opt c<| .val<|bj b))(hN:dj<N):aaG ops N Γ o (c&&gd b want):=
 ⟨fun _ _ a _ _ hs=>by
  have h:=hs.holds _<|aF hl
  have hlt:dj<a.tmps.size:=hs.sz▸hN;cases c
  ·have e:bh a dj=undef:=h.2 rfl;simp[bh,hlt] at e;have:yielded ops a.tmps j=none:=by simp[yielded,hj,hlt,e,undef]
   simp[Region.wanted,hg,this]
  ·have e:bh a dj= .bool b:=h.1 rfl;simp[bh,hlt] at e;have:yielded ops a.tmps j=some b:=by simp[yielded,hj,hlt,e]
   simp only[Region.wanted,hg,this,rQ];cases b<;>cases want<;>rfl⟩
def Step.guarded{o:Oper}(hgd:aaG ops N Γ o e)
 (h:e=true->bR P Γ o s)(hd:o.dst=some d)(hN:d<N)(hf:pj d Γ=true)(hl:s.vl d=false):Step P N ops o Γ ((d,.opt e s)::Γ):=by
 intro w0 H0 a w H hs K Q k;rw[hgd.w w0 H0 a w H hs];have Yf:d∉(bO.opt e s).c6:=CB (s:=s) hl;cases hb:e
 ·simp only[Cx,if_false];rw[hd];subst hb;exact k _ _ _ (B6 hs (Ext.refl hs.sub) hN hf Yf ⟨(fun e=>by cases e),fun _=>rfl⟩ (fun c e=>by cases e.1))
 ·simp only[if_true];subst hb;refine h rfl w0 H0 N a w H hs K Q fun v w' H' he hv hfr=>?_
  rw[hd];exact k _ _ _ (B6 hs he hN hf Yf ⟨(fun _=>hv),(fun e=>by cases e)⟩<|fun c e=>hfr c e.2)
def CH(o:Oper):att Edge:=o.after.toList.filter<|Region.binds .any
def El(ops:awa Oper)(av:att (att Nat)):Bool:=
 (List.range ops.size).all fun i=>match ops[i]? with
  |none=>false
  |some o=>((CH o).all fun e=>decide<|e.on<i)&&
   (av.getD i []).all fun j=>(CH o).any fun e=>e.on==j||(av.getD e.on []).contains j
def yC(ops:awa Oper)(k:Nat)(av:att (att Nat)):Bool:=
 decide (k<=ops.size)&&(List.range ops.size).all fun i=>decide (i<k)||(List.range i).all fun j=>(av.getD i []).contains j
def meets(x:att (Nat×att Nat))(l:att Nat):Bool:=x.any fun p=>l.contains p.1
def UP(k:Nat)(kl:att (att<|Nat×att Nat))(jP:att (att Nat))(jO:att Bool)(L:att Nat)(av:att (att Nat)):Bool:=
 ((List.range k).all fun j=>(List.range j).all fun i=>
  (!(meets (kl.getD i []) (jP.getD j [])||meets (kl.getD i []) ((kl.getD j []).map (·.1))||meets (kl.getD j []) (jP.getD i [])))||(av.getD j []).contains i)&&
 ((List.range k).all fun j=> !(jO.getD j true)||(!(meets ((kl.getD j []).take 1) L)&&(List.range k).all fun i=>(kl.getD i []).all fun p=>p.2.all fun t=>
  !(meets ((kl.getD j []).take 1) [t])||(i !=j&&(meets (kl.getD j []) [p.1]||(av.getD i []).contains j||(av.getD j []).any fun m=>decide (i<m)&&meets (kl.getD m []) [p.1]))||(i==j&& !(meets ((kl.getD j []).take 1) [p.1]))))
def vk:Ctx->att Nat
 |[]=>[]
 |p::Γ=>p.2.c6++vk Γ
def Kb:∀{Γ:Ctx} {q:Nat×bO} {t:Nat},q∈Γ->t∈q.2.c6->t∈vk Γ
 |p::Γ,q,t,h,e=>by
  rcases aY.1 h with h|h
  ·subst h;simp[vk,e]
  ·have:=Kb h e;simp[vk,this]
def da(d:Nat):Ctx->Ctx
 |[]=>[]
 |p::Γ=>bif Nat.beq p.1 d then da d Γ else p::da d Γ
def bG{d:Nat}:∀{Γ:Ctx},∀p∈da d Γ,p∈Γ/\p.1≠d
 |[],p,h=>by simp[da] at h
 |q::Γ,p,h=>by
  simp only[da] at h;cases hb:Nat.beq q.1 d
  ·rw[hb] at h;rcases aY.1 h with e|h
   ·subst e;exact⟨by simp,Nat.ne_of_beq_eq_false hb⟩
   ·exact⟨cW _ (bG p h).1,(bG p h).2⟩
  ·rw[hb] at h;exact⟨cW _ (bG p h).1,(bG p h).2⟩
def sB{d:Nat}:∀{Γ:Ctx} {p:Nat×bO},p∈Γ->p.1≠d->p∈da d Γ
 |q::Γ,p,h,hn=>by
  simp only[da];rcases aY.1 h with e|h
  ·subst e;cases hb:Nat.beq p.1 d
   ·simp
   ·exact absurd (fL hb) hn
  ·have:=sB h hn;cases Nat.beq q.1 d
   ·exact cW _ this
   ·exact this
def O9(P:atp)(N:Nat)(ops:awa Oper)(eI:Ctx)(o:Oper)(t:Nat)(s:bO):Prop:=
 ∀yM:Ctx,(∀q∈eI,q∈yM)->Step P N ops o yM ((t,s)::da t yM)
def agU(ks:att Nat)(Γ:Ctx):Ctx:=Γ.filter fun q=> !ks.contains q.1
def BF{ks:att Nat}{Γ:Ctx}{q:Nat×bO}:q∈agU ks Γ↔q∈Γ/\q.1∉ks:=by simp[agU]
def Sa(P:atp)(N:Nat)(ops:awa Oper)(eI:Ctx)(o:Oper)(t d:Nat)(s:bO):Prop:=
 ∀yM:Ctx,(∀q∈eI,q∈yM)->Step P N ops o yM ((d,s)::del d (da t yM))
def ag8(P:atp)(N:Nat)(ops:awa Oper)(eI:Ctx)(o:Oper)(t:Nat)(s':bO)(d:Nat)(s:bO):Prop:=
 ∀yM:Ctx,(∀q∈eI,q∈yM)->Step P N ops o yM ((d,s)::(t,s')::del d (da t yM))
def arI(P:atp)(N:Nat)(ops:awa Oper)(eI:Ctx)(o:Oper)(t:Nat)(s':bO)(d:Nat)(s:bO)(u:Nat)(su:bO):Prop:=
 ∀yM:Ctx,(∀q∈eI,q∈yM)->Step P N ops o yM ((d,s)::(t,s')::(u,su)::del d (da t yM))
def anA(P:atp)(N:Nat)(ops:awa Oper)(put:Bool)(c eI:Ctx)(o:Oper):Prop:=∀yM:Ctx,(∀q∈eI,q∈yM)->(put=true->∀q∈yM,q.1∉c.map (·.1)->∀p∈c.take 1,p.1∉q.2.c6)->(put=true->∀q∈c.take 1,∀p∈c.take 1,p.1∉q.2.c6)->∃aA:Ctx,Step P N ops o yM aA/\∀q,q∈c++agU (c.map (·.1)) yM->q∈aA
inductive jr(P:atp)(N:Nat)(ops:awa Oper)(Γ:Ctx):att Ctx->att Oper->att (att Nat)->att Bool->att Ctx->Prop where
 |nil {acc:att Ctx}:jr P N ops Γ acc [] [] [] acc
 |gen {acc S:att Ctx} {eI c:Ctx} {o:Oper} {l:att Oper} {ts:att Nat} {jP:att (att Nat)} {put:Bool} {jO:att Bool}
   (hs:ye (acc.flatten++Γ) ts eI) (h:anA P N ops put c eI o) (r:jr P N ops Γ (c::acc) l jP jO S):jr P N ops Γ acc (o::l) (ts::jP) (put::jO) S
def TU{A B:Ctx}{t:Nat}(h:look (A++B) t=some s):look A t=some s\/((∀q∈A,q.1≠t)/\look B t=some s):=by
 induction A with
 |nil=>exact .inr ⟨(fun q hq=>by cases hq),h⟩
 |cons p A ih=>
  obtain⟨k,s'⟩:=p;simp only[Ax,look] at h⊢;cases hb:Nat.beq k t
  ·rw[hb] at h;rcases ih h with h|⟨h1,h2⟩
   ·exact .inl h
   ·refine .inr ⟨fun q hq=>?_,h2⟩;rcases aY.1 hq with e|hq
    ·subst e;exact Nat.ne_of_beq_eq_false hb
    ·exact h1 q hq
  ·rw[hb] at h;exact .inl h
def At(Γ:Ctx)(S:att Ctx)(i:Nat)(q:Nat×bO):Prop:=
 (∃j c,j<i/\S[j]? =some c/\q∈c/\∀j' c',j<j'->j'<i->S[j']? =some c'->∀q'∈c',q'.1≠q.1)\/(q∈Γ/\∀j c',j<i->S[j]? =some c'->∀q'∈c',q'.1≠q.1)
def GA{Γ:Ctx}{t:Nat}{s:bO}{S:att Ctx}:∀{acc:att Ctx},(∀j,j<acc.length->S[j]? =acc.reverse[j]?)->look (acc.flatten++Γ) t=some s->At Γ S acc.length (t,s)
 |[],_,h=> .inr ⟨aF (by simpa using h),fun j c' hj=>by simp at hj⟩
 |c::acc,hS,h=>by
  have acD:S[acc.length]? =some c:=by rw[hS _ (by simp)];simp
  rw[List.flatten_cons,nR] at h;rcases TU h with h|⟨h1,h2⟩
  ·exact .inl ⟨acc.length,c,by simp,acD,aF h,fun j' c' h3 h4=>by simp at h4;omega⟩
  ·have ih:=GA (acc:=acc) (fun j hj=>by
    rw[hS j (by simp;omega),List.reverse_cons,xK (by simpa using hj)]) h2
   rcases ih with⟨j,c0,k1,k2,k3,k4⟩|⟨k1,k2⟩
   ·refine .inl ⟨j,c0,by simp;omega,k2,k3,fun j' c' h3 h4 h5=>?_⟩;simp at h4;by_cases e:j'=acc.length
    ·subst e;rw[acD] at h5;cases h5;exact h1
    ·exact k4 j' c' h3 (by omega) h5
   ·refine .inr ⟨k1,fun j' c' h4 h5=>?_⟩;simp at h4;by_cases e:j'=acc.length
    ·subst e;rw[acD] at h5;cases h5;exact h1
    ·exact k2 j' c' (by omega) h5
structure aed(P:atp)(N:Nat)(ops:awa Oper)(Γ:Ctx)(ts:att Nat)(put:Bool)(S:att Ctx)(i:Nat)(o:Oper)(c:Ctx):Prop where
 exec:∃eI:Ctx,anA P N ops put c eI o/\∀q∈eI,q.1∈ts/\At Γ S i q
def ye.looks{Γ:Ctx}{ts:att Nat}{aA:Ctx}(h:ye Γ ts aA):∀p∈aA,look Γ p.1=some p.2:=by
 induction h with
 |nil=>simp
 |cons h _ ih=>
  intro p hp;rcases aY.1 hp with e|hp
  ·subst e;exact h
  ·exact ih p hp
def Tq{yM:Ctx}(h:∀q∈yM,q.1≠d->d∉q.2.c6):pj d (da d yM)=true:=by
 simp only[pj,dI,bY,pf,ne_eq];exact fun q hq=>⟨(bG q hq).2,by simpa using h q (bG q hq).1 (bG q hq).2⟩
def Sat.ag5{P:atp}{w0:ar P}{w:arG}(hs:Sat w0 H0 N Γ a w H)(t:Nat):Sat w0 H0 N ((t,.gone)::Γ) a w H:=by
 refine⟨hs.nd,hs.sz,hs.below,hs.Jm,hs.sub,?_,?_,hs.gl⟩
 ·intro p hp;rcases aY.1 hp with e|hp
  ·subst e;trivial
  ·exact hs.holds p hp
 ·intro p hp q hq hne b hb ju;rcases aY.1 hp with e|hp
  ·subst e;exact hb.elim
  ·rcases aY.1 hq with e|hq
   ·subst e;exact ju.elim
   ·exact hs.sep p hp q hq hne b hb ju
def Step.gone{o:Oper}(h:Step P N ops o Γ aA)(t:Nat):Step P N ops o Γ ((t,.gone)::aA):=
 fun w0 H0 a w H hs K Q k=>h w0 H0 a w H hs K Q fun a' w' H' ui=>k a' w' H'<|ui.ag5 t
def Step.ahY{o:Oper}(h:Step P N ops o Γ aA):∀gs:att Nat,Step P N ops o Γ ((gs.map fun u=>(u,bO.gone))++aA)
 |[]=>h
 |u::gs=>(Step.ahY h gs).gone u
def Rr{yM:Ctx}{p q:Nat×bO}(h:q∈[p]++agU ([p].map (·.1)) yM):q∈p::da p.1 yM:=by
 rcases bN.1 h with h|h
 ·rw[cr.1 h];simp
 ·obtain⟨h1,h2⟩:=BF.1 h;exact cW _ (sB h1 (by simpa using h2))
def ym{d:Nat}:∀{Γ:Ctx} {p:Nat×bO},p∈Γ->p.1≠d->d∉p.2.c6->p∈del d Γ
 |q::Γ,p,h,hn,hl=>by
  simp only[del];have hq:(Nat.beq p.1 d||p.2.vl d)=false:=by
   rw[se];exact⟨by cases hb:Nat.beq p.1 d;rfl;exact absurd (fL hb) hn,VX hl⟩
  rcases aY.1 h with e|h
  ·subst e;rw[hq];simp
  ·have:=ym h hn hl;cases(Nat.beq q.1 d||q.2.vl d)
   ·exact cW _ this
   ·exact this
def jr.at_{acc:att Ctx}{l:att Oper}{jP:att (att Nat)}{jO:att Bool}{S:att Ctx}(h:jr P N ops Γ acc l jP jO S):
  (∃S',S=S'++acc/\S'.length=l.length)/\jP.length=l.length/\jO.length=l.length/\∀(i:Nat) (o:Oper) (ts:att Nat) (put:Bool),l[i]? =some o->jP[i]? =some ts->jO[i]? =some put->
   ∃p,S.reverse[acc.length+i]? =some p/\aed P N ops Γ ts put S.reverse (acc.length+i) o p:=by
 have step:∀{acc:att Ctx} {c:Ctx} {l:att Oper} {S:att Ctx},(∃S',S=S'++c::acc/\S'.length=l.length)->
   (∃S',S=S'++acc/\S'.length=l.length+1)/\S.reverse[acc.length]? =some c/\∀j,j<acc.length->S.reverse[j]? =acc.reverse[j]? :=by
  rintro acc c l S ⟨S',rfl,hl⟩;refine⟨⟨S'++[c],by simp,by simp[hl]⟩,by simp,fun j hj=>?_⟩;simp only[List.reverse_append,List.reverse_cons,nR];rw[xK (by simpa using hj)]
 induction h with
 |nil=>exact⟨⟨[],by simp⟩,rfl,rfl,fun i o _ _ h=>by simp at h⟩
 | @gen acc S eI c o l ts jP put jO hs h r ih=>
  obtain⟨h1,h2,h3,h4⟩:=ih;obtain⟨k1,k2,k3⟩:=step h1;refine⟨by simpa using k1,by simp[h2],by simp[h3],?_⟩;intro i o' ts' aop hi hn hp;cases i with
  |zero=>
   simp at hi hn hp;subst hi;subst hn;subst hp;exact⟨c,by simpa using k2,⟨eI,h,fun q hq=>⟨hs.keys q hq,by simpa using GA k3 (hs.looks q hq)⟩⟩⟩
  |succ i=>
   simp at hi hn hp;obtain⟨p,hp1,hp2⟩:=h4 i o' ts' aop hi hn hp;have e:acc.length+(i+1)=(c::acc).length+i:=by simp;omega
   rw[e];exact⟨p,hp1,hp2⟩
end
section
variable[D:DR]
variable{P:Program}{N:Nat}{ops:Array Oper}{Γ aA fy wv:Ctx}
variable{acc S:List Ctx}{Γ eI:Ctx}{o:Oper}{l:List Oper}{ts:List Nat}{jP:List (List Nat)}{jO:List Bool}{t d u:Nat}{s s' su:bO}{e:Bool}(gs:List Nat)(hs:ye (acc.flatten++Γ) ts eI)
include hs
def jr.cons(h:bR P eI o s)(hg:o.guard=none)(hd:o.dst=some d)(hN:d<N)(r:jr P N ops Γ ([(d,s)]::acc) l jP jO S):jr P N ops Γ acc (o::l) (ts::jP) (true::jO) S:=by
 refine .gen hs (fun yM dc tV Ud=>?_) r;refine⟨(d,s)::da d yM,?_,fun q hq=>Rr hq⟩;intro w0 H0 a w H dh K Q kk;simp only[Region.wanted,hg,if_true];refine h w0 H0 N a w H (dh.weaken dc) K Q fun v w' H' he hv hb=>?_
 rw[hd];exact kk _ _ _ (B6 (dh.weaken fun q hq=>(bG q hq).1) he hN (Tq fun q hq hn=>tV rfl q hq (by simpa using hn) (d,s) (by simp)) (Ud rfl (d,s) (by simp) (d,s) (by simp)) hv hb)
def jr.guarded(hgd:aaG ops N eI o e)(h:e=true->bR P eI o s)(hd:o.dst=some d)(hN:d<N)(r:jr P N ops Γ ([(d,.opt e s)]::acc) l jP jO S):jr P N ops Γ acc (o::l) (ts::jP) (true::jO) S:=by
 refine .gen hs (fun yM dc tV Ud=>?_) r;refine⟨(d,.opt e s)::da d yM,?_,fun q hq=>Rr hq⟩;intro w0 H0 a w H dh K Q kk;rw[hgd.w w0 H0 a w H<|dh.weaken dc];have ahF:=dh.weaken (aA:=da d yM) fun q hq=>(bG q hq).1
 have hf':pj d (da d yM)=true:=Tq fun q hq hn=>tV rfl q hq (by simpa using hn) (d,.opt e s) (by simp)
 have ui:d∉(bO.opt e s).c6:=Ud rfl (d,.opt e s) (by simp) (d,.opt e s) (by simp);cases hb:e
 ·simp only[Cx,if_false];rw[hd];subst hb;exact kk _ _ _ (B6 ahF (Ext.refl dh.sub) hN hf' ui ⟨(fun e=>by cases e),fun _=>rfl⟩ (fun c e=>by cases e.1))
 ·simp only[if_true];subst hb;refine h rfl w0 H0 N a w H (dh.weaken dc) K Q fun v w' H' he hv hfr=>?_
  rw[hd];exact kk _ _ _ (B6 ahF he hN hf' ui ⟨(fun _=>hv),(fun e=>by cases e)⟩<|fun c e=>hfr c e.2)
def jr.store(h:O9 P N ops eI o t s)(r:jr P N ops Γ ([(t,s)]::acc) l jP jO S):jr P N ops Γ acc (o::l) (ts::jP) (false::jO) S:=
 .gen hs (fun yM dc _ _=>⟨_,h yM dc,fun q hq=>Rr hq⟩) r
def jr.aro(h:Sa P N ops eI o t d s)(r:jr P N ops Γ (((d,s)::(t,.gone)::gs.map fun u=>(u,.gone))::acc) l jP jO S):jr P N ops Γ acc (o::l) (ts::jP) (true::jO) S:=by
 refine .gen hs (fun yM dc tV _=>⟨_,((h yM dc).ahY gs).gone t,fun q hq=>?_⟩) r;rcases bN.1 hq with hq|hq
 ·rcases aY.1 hq with e|hq
  ·subst e;exact cW _ (AD _ (by simp))
  ·rcases aY.1 hq with e|hq
   ·subst e;simp
   ·exact cW _<|pd _ hq
 ·obtain⟨m1,m2⟩:=BF.1 hq;have m3:=m2;simp only[qg,aY,not_or] at m2;refine cW _<|AD _<|cW _<|ym (sB m1 m2.2.1) m2.1 ?_
  exact tV rfl q m1 m3 (d,s) (by simp)
def jr.two(h:ag8 P N ops eI o t s' d s)(r:jr P N ops Γ ([(d,s),(t,s')]::acc) l jP jO S):jr P N ops Γ acc (o::l) (ts::jP) (true::jO) S:=by
 refine .gen hs (fun yM dc tV _=>⟨_,h yM dc,fun q hq=>?_⟩) r;rcases bN.1 hq with hq|hq
 ·simp only[aY,Aw,or_false] at hq;rcases hq with e|e<;>subst e<;>simp
 ·obtain⟨m1,m2⟩:=BF.1 hq;have m3:=m2;simp only[qg,HR,aY,Aw,or_false,not_or] at m2;exact cW _ (cW _ (ym (sB m1 m2.2) m2.1 (tV rfl q m1 m3 (d,s) (by simp))))
def jr.three(h:arI P N ops eI o t s' d s u su)(r:jr P N ops Γ ([(d,s),(t,s'),(u,su)]::acc) l jP jO S):jr P N ops Γ acc (o::l) (ts::jP) (true::jO) S:=by
 refine .gen hs (fun yM dc tV _=>⟨_,h yM dc,fun q hq=>?_⟩) r;rcases bN.1 hq with hq|hq
 ·simp only[aY,Aw,or_false] at hq;rcases hq with e|e|e<;>subst e<;>simp
 ·obtain⟨m1,m2⟩:=BF.1 hq;have m3:=m2;simp only[qg,HR,aY,Aw,or_false,not_or] at m2;exact cW _ (cW _ (cW _ (ym (sB m1 m2.2.1) m2.1 (tV rfl q m1 m3 (d,s) (by simp)))))
end
section
variable[D:DR]
variable{P:atp}{w:arG}{o:Oper}{n:Nat}{l:att Oper}
def ub{P:atp}(w0:ar P)(N:Nat)(Γ fy:Ctx):Prop:=∀(H0:HV) (a:Act) (w:arG) (H:HV),Sat w0 H0 N Γ a w H->∃H',Sat w0 H0 N fy a w H'
inductive ue(P:atp)(w0:ar P)(N:Nat)(ops:awa Oper):att Oper->Ctx->Ctx->Prop where
 |done {Γ:Ctx}:ue P w0 N ops [] Γ Γ
 |fin {Γ aA:Ctx} {ts:att Nat} (h:ye Γ ts aA):ue P w0 N ops [] Γ aA
 |cons {Γ fy wv:Ctx} {o:Oper} {l:att Oper} (h:Step P N ops o Γ fy) (r:ue P w0 N ops l fy wv):ue P w0 N ops (o::l) Γ wv
 |ghost {Γ fy wv:Ctx} {l:att Oper} (h:ub w0 N Γ fy) (r:ue P w0 N ops l fy wv):ue P w0 N ops l Γ wv
def jd(rd:av8 Nat):Fence:={fn:=fun _=>True,depth:=none,alive:=false,round:=rd}
def adI{rd:av8 Nat}{f:FuncId}{args:awa arH}{R:Ending->arG->Prop}(h:Calls P f args w R):CallsIn (jd rd) n P f args w R:=
 (callsIn_wide (n:=n)).2 h
def Ht{rd:av8 Nat}{a:Act}{K:Act->arG->Prop}{Q:Exit->Act->arG->Prop}(Sk:∀c,o.op≠ .defer c)(h:o.wp P a w K Q):o.wpIn (jd rd) 0 P a w K Q:=by
 refine⟨fun _ _=>trivial,?_⟩;rw[Oper.semAt_eq _ _ _ Sk];unfold Oper.wp at h
 generalize (execOp a.eval o).run P w=r at*
 cases r with
 |ok n w'=>
  cases n<;>simp only[Oper.upon] at h<;>first
   |exact h
   |exact h.elim
   |exact⟨(fun e=>by cases e),adI h⟩
   |exact⟨(fun e=>by cases e),fun c cs _=>let⟨v,w2,r1,s⟩:=h c cs;⟨v,w2,r1,stepsIn_wide.2 s⟩⟩
 |halt x w'=>cases x<;>simp only[Oper.upon] at h⊢ <;>exact h
def CallsIn.ahs{F:Fence}{f:FuncId}{args:awa arH}{R R':Ending->arG->Prop}(h:CallsIn F n P f args w R)(hr:∀e w',R e w'->R' e w'):CallsIn F n P f args w R':=
 ⟨h.1,fun cs hc=>let⟨e,w',fr,r,s⟩:=h.2 cs hc;⟨e,w',fr,hr _ _ r,s⟩⟩
def GI{F:Fence}{a:Act}{K K':Act->arG->Prop}{Q:Exit->Act->arG->Prop}(h:∀a w,K a w->K' a w)(hh:o.wpIn F n P a w K Q):o.wpIn F n P a w K' Q:=by
 refine⟨hh.1,?_⟩;have hh:=hh.2
 generalize (o.semAt F.round a.eval).run P w=r at*
 cases r with
 |ok n w'=>
  cases n<;>simp only[Oper.uponIn] at hh⊢ <;>
   first
    |exact h _ _ hh
    |exact⟨hh.1,CallsIn.ahs hh.2 (fun e w'' he=>by cases e<;>first|exact h _ _ he|exact he)⟩
    |exact⟨hh.1,RowsIn.mono hh.2<|fun _ _ he=>h _ _ he⟩
    |exact⟨hh.1,RoundIn.mono hh.2 (fun e w'' he=>by cases e<;>first|exact h _ _ he|exact he)⟩
 |halt x w'=>cases x<;>simp only[Oper.uponIn] at hh⊢ <;>exact hh
def uG(l:att Oper):Bool:=l.all fun o=>match o.op with| .defer _=>false|_=>true
def Gc(h:uG l=true)(ho:o∈l):∀c,o.op≠ .defer c:=fun c e=>by
 have:=dI.1 h o ho;simp[e] at this
def MZ(h:uG (o::l)=true):uG l=true:=by simp only[uG,ti,bY] at h;exact h.2
def ue.sound{w0:ar P}{N:Nat}{ops:awa Oper}{Γ aA:Ctx}(h:ue P w0 N ops l Γ aA):uG l=true->∀(H0:HV) (a:Act) (w:arG) (H:HV),Sat w0 H0 N Γ a w H->∀(Q:Exit->Act->arG->Prop),
  (∀a' w' H',Sat w0 H0 N aA a' w' H'->Q .normal a' w')->wpListIn (jd w0.rd) 0 P ops Q l a w:=by
 induction h with
 |done=>exact fun _ _ _ _ H hs _ k=>k _ _ H hs
 |fin h=>exact fun _ _ _ _ H hs _ k=>k _ _ H<|hs.weaken h.sub
 | @cons _ _ _ o l h _ ih=>
  intro ij H0 a w H hs Q k;have C6:=h w0 H0 a w H hs (wpListIn (jd w0.rd) 0 P ops Q l) Q fun a' w' H' ui=>ih (MZ ij) H0 a' w' H' ui Q k
  unfold wpListIn;split
  ·rename_i hw;rw[if_pos hw] at C6;exact Ht (Gc ij (by simp)) C6
  ·rename_i hw;rw[if_neg hw] at C6;exact⟨fun _ _=>trivial,C6⟩
 |ghost h _ ih=>
  intro ij H0 a w H hs Q k;obtain⟨H',ui⟩:=h H0 a w H hs;exact ih ij H0 a w H' ui Q k
end
section
variable[D:DR]
variable{P:Program}{ops:Array Oper}{Q:Exit->Act->World->Prop}{F:Fence}
def GH(F:Fence)(P:atp)(ops:awa Oper)(Q:Exit->Act->arG->Prop)(i:Nat)(K:Act->arG->Prop)(a:Act)(w:arG):Prop:=
 match ops[i]? with
 |none=>K a w
 |some o=>if Region.wanted o (yielded ops a.tmps) then o.wpIn F 0 P a w K Q else(∀f,o.about P w a.eval=some f->F.fn f)/\K (a.put o.dst undef) w
def AM(F:Fence)(P:atp)(ops:awa Oper)(Q:Exit->Act->arG->Prop):Nat->awa Bool->Act->arG->Prop
 |0,listed,a,w=>Region.ready .any ops listed=[]/\Q .normal a w
 |fuel+1,listed,a,w=>
  (Region.ready .any ops listed=[]->Q .normal a w)/\
  ∀i∈Region.ready .any ops listed,GH F P ops Q i (AM F P ops Q fuel<|listed.setIfInBounds i true) a w
def Su(i:Nat)(rest:att Nat)(a:Act)(w:arG):wpOpsIn F 0 P ops Q (i::rest) a w=GH F P ops Q i (wpOpsIn F 0 P ops Q rest) a w:=by
 cases h:ops[i]? <;>simp[wpOpsIn,GH,h]
def Vp{i:Nat}{a:Act}{w:arG}{K K':Act->arG->Prop}(h:∀a w,K a w->K' a w)(hh:GH F P ops Q i K a w):GH F P ops Q i K' a w:=by
 unfold GH at*;split
 ·exact h _ _ (by simpa[*] using hh)
 ·rename_i o ho;simp only[ho] at hh;split
  ·rename_i hw;simp only[hw,if_true] at hh;exact GI h hh
  ·rename_i hw;simp only[hw] at hh;exact⟨hh.1,h _ _ hh.2⟩
def Qw:∀(fuel t:Nat) (listed:awa Bool) (a:Act) (w:arG),AM F P ops Q fuel listed a w->wpOpsIn F 0 P ops Q (Region.linearise.go .any ops fuel t listed []) a w:=by
 intro fuel
 induction fuel with
 |zero=>intro t listed a w h;simpa[Region.linearise.go,wpOpsIn] using h.2
 |succ fuel ih=>
  intro t listed a w h;obtain⟨h0,h1⟩:=h;simp only[Region.linearise.go];change wpOpsIn F 0 P ops Q (match(Region.ready .any ops listed)[t%(Region.ready .any ops listed).length]? with
   |some i=>Region.linearise.go .any ops fuel (t/(Region.ready .any ops listed).length) (listed.setIfInBounds i true) [i]
   |none=>[].reverse) a w
  cases hi:(Region.ready .any ops listed)[t%(Region.ready .any ops listed).length]? with
  |none=>
   have Wi:Region.ready .any ops listed=[]:=by
    cases hr:Region.ready .any ops listed with
    |nil=>rfl
    |cons x xs=>
     rw[hr] at hi;have hlt:t%(x::xs).length<(x::xs).length:=te _ (by simp);simp at hi;simp at hlt;omega
   simpa[wpOpsIn] using h0 Wi
  |some i=>
   simp only[];rw[linearise_go_acc,List.reverse_singleton,List.singleton_append,Su];exact Vp (fun a w=>ih _ _ a w)<|h1 i<|AA hi
def Kp{id:Nat}{a:Act}{w:arG}(hm:P.follows .mixedOrders=true)
  (h:AM F P ops Q ops.size (Array.replicate ops.size false) a {w with drawn:=w.drawn+1}):(Code.region id ops true).wpIn F 0 P Q a w:=
 wpIn_region_draw fun t=>by
  simp only[Region.schedule,hm,EO,if_true];exact Qw ops.size t _ a _ h
end
section
variable[D:DR]
variable{P:Program}{N:Nat}{ops:Array Oper}{Γ aA:Ctx}
variable{listed:awa Bool}{i:Nat}{av:att (att Nat)}{Q:Exit->Act->arG->Prop}{k:Nat}{S:att Ctx}{a:Act}{w:arG}{c:Ctx}{jP:att (att Nat)}{jO:att Bool}{kl:att (att<|Nat×att Nat)}{L:att Nat}{Fl:Ctx}{ts:att Nat}{w0:ar P}{H0:HV}
def yc(listed:awa Bool)(i:Nat):Prop:=listed.getD i false=true
def Ym(h:i<listed.size):listed.getD i true=listed.getD i false:=by simp[h]
def yI(hs:listed.size=ops.size):i∈Region.ready .any ops listed↔∃o,ops[i]? =some o/\ ¬yc listed i/\∀e∈CH o,yc listed e.on:=by
 simp only[Region.ready,pW,yt];constructor
 ·rintro⟨hi,h⟩;have hi':i<listed.size:=hs▸hi;rw[Ym hi'] at h;simp only[bY,jl] at h;obtain⟨h1,h2⟩:=h;refine⟨ops[i],by simp[hi],by simp[yc];simpa using h1,?_⟩;simp only[hi,getElem?_pos,Aq,H9] at h2;intro e he;have:=Array.all_eq_true'.1 h2 e (by simpa using(pW.1 he).1);have hb:=(pW.1 he).2;simp[hb] at this;simpa[yc] using this
 ·rintro⟨o,ho,hl,he⟩;have hi:i<ops.size:=(Ba.1 ho).1;have hi':i<listed.size:=hs▸hi;refine⟨hi,?_⟩;rw[Ym hi'];simp only[bY,jl,ho,Aq,H9];refine⟨by simpa[yc] using hl,?_⟩;rw[Array.all_eq_true'];intro e hm;by_cases hb:Region.binds .any e=true
  ·have:=he e (pW.2 ⟨by simpa using hm,hb⟩);simp[yc] at this;simp[this]
  ·simp at hb;simp[hb]
def yz{j:Nat}(hi:i<listed.size):yc (listed.setIfInBounds i true) j↔(j=i\/yc listed j):=by
 simp only[yc,CA];by_cases e:i=j
 ·subst e;simp[hi]
 ·rw[Array.getElem?_setIfInBounds_ne e];constructor
  ·exact fun h=> .inr h
  ·rintro(h|h)
   ·exact absurd h.symm e
   ·exact h
def unl(listed:awa Bool):Nat:=listed.toList.count false
def Xm(hi:i<listed.size)(hn: ¬yc listed i):unl (listed.setIfInBounds i true)+1=unl listed:=by
 have hf:listed.toList[i]'(by simpa using hi)=false:=by
  simp[yc,hi] at hn;simpa using hn
 have hpos:0<listed.toList.count false:=List.count_pos_iff.2 (by rw[<-hf];exact rY _);simp only[unl,LQ];rw[List.count_set (by simpa using hi),hf];simp only[beq_self_eq_true,if_true];have:(true==false)=false:=rfl;rw[this];simp only[Cx,if_false];omega
def SK(h:unl listed=0)(hi:i<listed.size):yc listed i:=by
 have:=List.count_eq_zero.1 h;have hm:listed[i]∈listed.toList:=by simp
 simp only[yc,hi,CA,getElem?_pos,H9];cases hb:listed[i]
 ·rw[hb] at hm;exact absurd hm this
 ·rfl
def Yw(Sn:El ops av=true){o:Oper}(ho:ops[i]? =some o){e:Edge}(he:e∈CH o):e.on<i:=by
 have hi:=(Ba.1 ho).1;have:=dI.1 Sn i (by simp[hi]);rw[ho] at this;simp only[bY,dI,vj] at this;exact this.1 e he
def uM{n m:Nat}: ¬yc (Array.replicate n false) m:=by
 simp only[yc,CA,Array.getElem?_replicate];split<;>simp
def MF(Sn:El ops av=true)(hs:listed.size=ops.size)(hi:i<ops.size)(hn: ¬yc listed i):Region.ready .any ops listed≠[]:=by
 have key:∀m,∀i,i<=m->i<ops.size-> ¬yc listed i->∃j,j∈Region.ready .any ops listed:=by
  intro m
  induction m with
  |zero=>
   intro i him hi hn;have:i=0:=by omega
   subst this;refine⟨0,(yI hs).2 ⟨ops[0],by simp[hi],hn,?_⟩⟩;intro e he;have:=Yw Sn (i:=0) (o:=ops[0]) (by simp[hi]) he;omega
  |succ m ih=>
   intro i him hi hn;by_cases hall:∀e∈CH ops[i],yc listed e.on
   ·exact⟨i,(yI hs).2 ⟨ops[i],by simp[hi],hn,hall⟩⟩
   ·have⟨e,he,hne⟩:∃e,e∈CH ops[i]/\ ¬yc listed e.on:=by
     apply eK;intro hc;exact hall fun e he=>eK fun h=>hc ⟨e,he,h⟩
    have:=Yw Sn (i:=i) (o:=ops[i]) (by simp[hi]) he;exact ih e.on (by omega) (by omega) hne
 obtain⟨j,hj⟩:=key i i (bp _) hi hn;intro e;rw[e] at hj;cases hj
def JK(Sn:El ops av=true)(hs:listed.size=ops.size)(hc:∀m,yc listed m->∀j∈av.getD m [],yc listed j)(hi:i∈Region.ready .any ops listed):∀j∈av.getD i [],yc listed j:=by
 obtain⟨o,ho,hn,he⟩:=(yI hs).1 hi;have hlt:=(Ba.1 ho).1;have:=dI.1 Sn i (by simp[hlt]);simp only[ho,bY,dI,H8] at this;intro j hj;obtain⟨e,he',hx⟩:=this.2 j hj;simp only[rX,yq,AB] at hx;rcases hx with hx|hx
 ·exact hx▸he e he'
 ·exact hc e.on (he e he') j hx
def aeM{rd:av8 Nat}{o:Oper}{K:Act->arG->Prop}(ho:ops[i]? =some o)(Sk:∀c,o.op≠ .defer c)
 (h:if Region.wanted o (yielded ops a.tmps) then o.wp P a w K Q else K (a.put o.dst undef) w):GH (jd rd) P ops Q i K a w:=by
 unfold GH;simp only[ho];split
 ·rename_i hw;rw[if_pos hw] at h;exact Ht Sk h
 ·rename_i hw;rw[if_neg hw] at h;exact⟨fun _ _=>trivial,h⟩
def Y7{F:Fence}(hq:Q .normal a w)(fuel:Nat)(listed:awa Bool)(hsz:listed.size=ops.size)(hL:∀j,j<ops.size->yc listed j):AM F P ops Q fuel listed a w:=by
 have hr:Region.ready .any ops listed=[]:=by
  apply List.eq_nil_iff_forall_not_mem.2;intro i hi;obtain⟨o,ho,hn,_⟩:=(yI hsz).1 hi;exact hn<|hL i (Ba.1 ho).1
 cases fuel with
 |zero=>exact⟨hr,hq⟩
 |succ f=>exact⟨fun _=>hq,fun i hi=>by rw[hr] at hi;cases hi⟩
def Vv{F:Fence}(Sn:El ops av=true)(RM:yC ops k av=true):∀(l:att Oper)
  (i fuel:Nat) (listed:awa Bool) (a:Act) (w:arG),l=ops.toList.drop i->k<=i->i<=ops.size->listed.size=ops.size->(∀j,j<ops.size->(yc listed j↔j<i))->
   (∀m,yc listed m->∀j∈av.getD m [],yc listed j)->unl listed<=fuel->wpListIn F 0 P ops Q l a w->AM F P ops Q fuel listed a w:=by
 intro l
 induction l with
 |nil=>
  intro i fuel listed a w hl hki hi hsz hL hc hu hw;have:ops.size<=i:=by simpa using List.drop_eq_nil_iff.1 hl.symm
  exact Y7 hw fuel listed hsz (fun j hj=>(hL j hj).2 (by omega))
 |cons o l ih=>
  intro i fuel listed a w hl hki hi hsz hL hc hu hw;have Uk:i<ops.size:=by
   apply eK;intro Um;rw[List.drop_eq_nil_of_le (by simp<;>omega)] at hl;cases hl
  have hnl: ¬yc listed i:=fun h=>by have:=(hL i Uk).1 h;omega
  have ho:ops[i]? =some o:=by
   have:(ops.toList.drop i)[0]? =some o:=by rw[<-hl];rfl
   simpa using this
  have Yf:l=ops.toList.drop (i+1):=by
   have:=congrArg List.tail hl;simpa using this
  have hne:=MF Sn hsz Uk hnl;have only:∀j∈Region.ready .any ops listed,j=i:=by
   intro j hj;obtain⟨o',Vg,hn,_⟩:=(yI hsz).1 hj;have amd:=(Ba.1 Vg).1;have hji:i<=j:=by
    apply eK;intro hlt;exact hn ((hL j amd).2 (by omega))
   have aqv:=JK Sn hsz hc hj;simp only[yC,bY,dI,yt,rX,vj,AB] at RM;rcases RM.2 j amd with hx|hx
   ·omega
   ·apply eK;intro hne;have:=(hL i Uk).1 (aqv i (hx i (by omega)));omega
  cases fuel with
  |zero=>
   exact absurd (SK (by omega)<|hsz▸Uk) hnl
  |succ f=>
   refine⟨fun e=>absurd e hne,fun j hj=>?_⟩;have hji:=only j hj;subst hji;have zN:j<listed.size:=hsz▸Uk;have next:∀a' w',wpListIn F 0 P ops Q l a' w'->AM F P ops Q f (listed.setIfInBounds j true) a' w':=by
    intro a' w' hw';refine ih (j+1) f _ a' w' Yf (by omega) (by omega) (by simp[hsz]) ?_ ?_ ?_ hw'
    ·intro m hm;rw[yz zN,hL m hm];omega
    ·intro m hm x hx;rw[yz zN] at hm⊢;rcases hm with hm|hm
     ·subst hm;exact .inr<|JK Sn hsz hc hj x hx
     ·exact .inr<|hc m hm x hx
    ·have:=Xm zN hnl;omega
   unfold wpListIn at hw;unfold GH;simp only[ho];split
   ·rename_i hwt;rw[if_pos hwt] at hw;exact GI next hw
   ·rename_i hwt;rw[if_neg hwt] at hw;exact⟨hw.1,next _ _ hw.2⟩
def other(listed:awa Bool)(S:att Ctx)(k lo:Nat)(t:Nat):Bool:=(List.range k).all fun j=> !(decide (lo<=j)&&listed.getD j false)||(S.getD j []).all fun q=>q.1 !=t
def VG(listed:awa Bool)(S:att Ctx)(k:Nat)(Γ:Ctx):Ctx:=
 ((List.range k).flatMap fun j=>if listed.getD j false=true then(S.getD j []).filter (fun q=>other listed S k (j+1) q.1) else [])++
 Γ.filter fun q=>other listed S k 0 q.1
def EI{lo t:Nat}:other listed S k lo t=true↔∀j c,lo<=j->j<k->yc listed j->S[j]? =some c->∀q∈c,q.1≠t:=by
 simp only[other,dI,yt,rX,jl,Bool.and_eq_false_imp,vj,pf,ne_eq];constructor
 ·intro h j c h1 h2 h3 h4 q hq;rcases h j h2 with h|h
  ·have:=h h1;rw[h3] at this;cases this
  ·exact h q (by rw[iy,h4];exact hq)
 ·intro h j hj;by_cases hl:lo<=j/\listed.getD j false=true
  ·right;intro q hq;rw[iy] at hq;cases hc:S[j]? with
   |none=>rw[hc] at hq;cases hq
   |some c=>rw[hc] at hq;exact h j c hl.1 hj hl.2 hc q hq
  ·left;intro h1;cases hb:listed.getD j false
   ·rfl
   ·exact absurd ⟨h1,hb⟩ hl
def zi{Γ:Ctx}{q:Nat×bO}:q∈VG listed S k Γ↔
  (∃j c,j<k/\yc listed j/\S[j]? =some c/\q∈c/\∀j' c',j<j'->j'<k->yc listed j'->S[j']? =some c'->∀q'∈c',q'.1≠q.1)\/(q∈Γ/\∀j c',j<k->yc listed j->S[j]? =some c'->∀q'∈c',q'.1≠q.1):=by
 simp only[VG,bN,Ly,yt,pW];constructor
 ·rintro(⟨j,hj,h⟩|⟨h1,h2⟩)
  ·left;split at h
   ·rename_i hl;obtain⟨h1,h2⟩:=pW.1 h;rw[EI] at h2;cases hc:S[j]? with
    |none=>rw[iy,hc] at h1;cases h1
    |some c=>
     rw[iy,hc] at h1;exact⟨j,c,hj,hl,hc,h1,fun j' c' h3 h4 h5 h6=>h2 j' c' h3 h4 h5 h6⟩
   ·cases h
  ·right;rw[EI] at h2;exact⟨h1,fun j c' h3 h4 h5=>h2 j c' (iR _) h3 h4 h5⟩
 ·rintro(⟨j,c,hj,hl,hc,hq,hm⟩|⟨h1,h2⟩)
  ·left;refine⟨j,hj,?_⟩;have Yf:listed.getD j false=true:=hl;rw[if_pos Yf];exact pW.2 ⟨by rw[iy,hc];exact hq,EI.2 fun j' c' h3 h4 h5 h6=>hm j' c' h3 h4 h5 h6⟩
  ·exact .inr ⟨h1,EI.2 fun j c' _ h3 h4 h5=>h2 j c' h3 h4 h5⟩
def Gj(c:Ctx):att (Nat×att Nat):=c.map fun p=>(p.1,p.2.c6)
def No{p:Nat×bO}(h:p∈c):(p.1,p.2.c6)∈Gj c:=bT.2 ⟨p,h,rfl⟩
def BG{p:Nat×bO}{l:att Nat}(h:p∈c)(hl:p.1∈l):meets (Gj c) l=true:=
 H8.2 ⟨_,No h,by simpa using hl⟩
def PR{t:Nat}(h:meets (Gj c) [t]=true):t∈c.map (·.1):=by
 obtain⟨x,hx,hy⟩:=H8.1 h;obtain⟨y,hy1,rfl⟩:=bT.1 hx;simp at hy;exact bT.2 ⟨y,hy1,hy⟩
def ai4{m:Nat}(h:yc listed m):m<listed.size:=by
 apply eK;intro Um;simp[yc,CA,Ii<|Nat.le_of_not_lt Um] at h
def UE{Γ:Ctx}(ij:uG (ops.toList.take k)=true)(Sn:El ops av=true)(Sk:UP k kl jP jO L av=true)(hkn:k<=ops.size)(Wg:∀i,k<=i->i<ops.size->∀j,j<k->j∈av.getD i [])
 (RP:S.reverse.map Gj=kl)(hL:vk Γ=L)
 (hp:jr P N ops Γ [] (ops.toList.take k) jP jO S)(Ee:ye (S.flatten++Γ) ts Fl)
 (Sm:∀(fuel:Nat) (listed:awa Bool) (a:Act) (w:arG) (H:HV),listed.size=ops.size->(∀j,j<ops.size->(yc listed j↔j<k))->(∀m,yc listed m->∀j∈av.getD m [],yc listed j)->unl listed<=fuel->Sat w0 H0 N Fl a w H->AM (jd w0.rd) P ops Q fuel listed a w):
  ∀(fuel:Nat) (listed:awa Bool) (a:Act) (w:arG) (H:HV),listed.size=ops.size->(∀m,yc listed m->∀j∈av.getD m [],yc listed j)->(∀i,k<=i->i<ops.size-> ¬yc listed i)->
   unl listed<=fuel->Sat w0 H0 N (VG listed S.reverse k Γ) a w H->AM (jd w0.rd) P ops Q fuel listed a w:=by
 obtain⟨⟨S',hS',hlen⟩,hnl,RO,hat⟩:=hp.at_;have hSl:S.length=k:=by rw[hS'];simp[hlen,hkn]
 have aji:jP.length=k:=by rw[hnl];simp[hkn]
 have alV:jO.length=k:=by rw[RO];simp[hkn]
 have key:∀j c,S.reverse[j]? =some c->kl.getD j []=Gj c:=by
  intro j c h;rw[<-RP,iy,kD,h]
  rfl
 simp only[UP,bY] at Sk;obtain⟨hc1,GF⟩:=Sk;have aj7:∀i j (ci cj:Ctx),i<j->j<k->S.reverse[i]? =some ci->S.reverse[j]? =some cj->((∃p∈ci,p.1∈jP.getD j [])\/(∃p∈ci,∃q∈cj,p.1=q.1)\/(∃p∈cj,p.1∈jP.getD i []))->i∈av.getD j []:=by
  intro i j ci cj Vh hj h1 h2 h3;simp only[dI,yt,rX,jl,AB] at hc1;rcases hc1 j hj i Vh with h|h
  ·rw[key i ci h1,key j cj h2] at h;simp only[se] at h;exfalso;rcases h3 with⟨p,hp,h3⟩|⟨p,hp,q,hq,h3⟩|⟨p,hp,h3⟩
   ·have:=BG hp h3;rw[h.1.1] at this;cases this
   ·have:=BG (l:=(Gj cj).map (·.1)) hp (by rw[h3];exact bT.2 ⟨_,No hq,rfl⟩);rw[h.1.2] at this;cases this
   ·have:=BG hp h3;rw[h.2] at this;cases this
  ·exact h
 have lean:∀j (cj:Ctx),j<k->jO.getD j true=true->S.reverse[j]? =some cj->∀p∈cj.take 1,(p.1∉L)/\∀i (ci:Ctx),i<k->S.reverse[i]? =some ci->∀q∈ci,p.1∈q.2.c6->(i≠j/\(q.1∈cj.map (·.1)\/j∈av.getD i []\/∃m,m∈av.getD j []/\i<m/\meets (kl.getD m []) [q.1]=true))\/(i=j/\∀p'∈cj.take 1,p'.1≠q.1):=by
  intro j cj hj hpj h1 p hp;have tk:(Gj cj).take 1=Gj (cj.take 1):=by simp[Gj,List.map_take]
  simp only[dI,yt,rX,jl,bY] at GF;rcases GF j hj with h|⟨h2,h3⟩
  ·rw[hpj] at h;cases h
  ·rw[key j cj h1,tk] at h2;refine⟨(fun hm=>by have:=BG hp hm;rw[h2] at this;cases this),fun i ci hi h4 q hq h5=>?_⟩;have h6:=h3 i hi (q.1,q.2.c6) (by rw[key i ci h4];exact No hq);have h6:=h6 p.1 h5;simp only[rX,jl,bY,pf,ne_eq,AB] at h6;rcases h6 with(h6|⟨h6,(h7|h7)|h7⟩)|⟨h6,h7⟩
   ·have:=BG (l:=[p.1]) hp (by simp);rw[key j cj h1,tk] at h6;rw[h6] at this;cases this
   ·refine .inl ⟨h6,.inl ?_⟩;rw[key j cj h1] at h7;exact PR h7
   ·exact .inl ⟨h6,.inr<| .inl h7⟩
   ·obtain⟨m,hm,h8⟩:=H8.1 h7;simp only[bY,vj] at h8;exact .inl ⟨h6,.inr<| .inr ⟨m,hm,h8.1,h8.2⟩⟩
   ·refine .inr ⟨by simpa using h6,fun p' hp' e=>?_⟩;rw[key j cj h1,tk] at h7;have:=BG (l:=[q.1]) hp' (by simp[e]);rw[h7] at this;cases this
 have pure:∀i o,i<k->ops[i]? =some o->∃c,S.reverse[i]? =some c/\aed P N ops Γ (jP.getD i []) (jO.getD i true) S.reverse i o c:=by
  intro i o hi ho;have e1:jP[i]? =some (jP.getD i []):=by simp[iy,aji,hi]
  have e2:jO[i]? =some (jO.getD i true):=by simp[iy,alV,hi]
  obtain⟨p,h1,h2⟩:=hat i o _ _ (by rw[List.getElem?_take_of_lt hi];simpa using ho) e1 e2;exact⟨p,by simpa using h1,by simpa using h2⟩
 have toTail:∀(fuel:Nat) (listed:awa Bool) (a:Act) (w:arG) (H:HV),listed.size=ops.size->(∀m,yc listed m->∀j∈av.getD m [],yc listed j)->(∀i,k<=i->i<ops.size-> ¬yc listed i)->
   unl listed<=fuel->(∀j,j<k->yc listed j)->Sat w0 H0 N (VG listed S.reverse k Γ) a w H->AM (jd w0.rd) P ops Q fuel listed a w:=by
  intro fuel listed a w H hsz hc RP hu hall dh;refine Sm fuel listed a w H hsz ?_ hc hu<|dh.weaken ?_
  ·intro j hj;constructor
   ·intro h;apply eK;intro Um;exact RP j (by omega) hj h
   ·exact hall j
  ·intro q hq;have hat:=GA (S:=S.reverse) (fun j _=>rfl)<|Ee.looks q hq
   rw[hSl] at hat;rw[zi];rcases hat with⟨j,c,hj,h1,h1',h2⟩|⟨h1,h2⟩
   ·exact .inl ⟨j,c,hj,hall j hj,h1,h1',fun j' q' h3 h4 _ h5=>h2 j' q' h3 h4 h5⟩
   ·exact .inr ⟨h1,fun j q' h3 _ h5=>h2 j q' h3 h5⟩
 intro fuel
 induction fuel with
 |zero=>
  intro listed a w H hsz hc RP hu dh;exact toTail 0 listed a w H hsz hc RP hu (fun j hj=>SK (by omega) (by omega)) dh
 |succ f ih=>
  intro listed a w H hsz hc RP hu dh;by_cases hall:∀j,j<k->yc listed j
  ·exact toTail (f+1) listed a w H hsz hc RP hu hall dh
  ·have⟨j0,hj0,hn0⟩:∃j,j<k/\ ¬yc listed j:=by
    apply eK;intro ap6;exact hall fun j hj=>eK fun h=>ap6 ⟨j,hj,h⟩
   refine⟨fun e=>absurd e (MF Sn hsz (by omega) hn0),fun i hi=>?_⟩;obtain⟨o,ho,hni,_⟩:=(yI hsz).1 hi;have Uk:=(Ba.1 ho).1;have hil:i<listed.size:=hsz▸Uk;have agw:=JK Sn hsz hc hi;by_cases hik:i<k
   ·obtain⟨c,hp1,hp2⟩:=pure i o hik ho;obtain⟨eI,hex,dc⟩:=hp2.exec;have hin:∀q∈eI,q∈VG listed S.reverse k Γ:=by
     intro q hq;obtain⟨hm,hx⟩:=dc q hq;have up:∀j' c',i<=j'->j'<k->yc listed j'->S.reverse[j']? =some c'->∀q'∈c',q'.1≠q.1:=by
      intro j' c' h3 h4 h5 h6 q' hq' e;rcases Nat.lt_or_eq_of_le h3 with h3|h3
      ·have:=aj7 i j' c c' h3 h4 hp1 h6 (.inr<| .inr ⟨q',hq',e▸hm⟩);exact hni<|hc j' h5 i this
      ·subst h3;exact hni h5
     refine zi.2 ?_;rcases hx with⟨j,cj,hj,hqj,hqc,Jt⟩|⟨hx,Jt⟩
     ·refine .inl ⟨j,cj,by omega,agw j<|aj7 j i cj c hj hik hqj hp1<| .inl ⟨q,hqc,hm⟩,hqj,hqc,fun j' c' h3 h4 h5 h6=>?_⟩;rcases kQ j' i with h7|h7
      ·exact Jt j' c' h3 h7 h6
      ·exact up j' c' h7 h4 h5 h6
     ·refine .inr ⟨hx,fun j' c' h4 h5 h6=>?_⟩;rcases kQ j' i with h7|h7
      ·exact Jt j' c' h7 h6
      ·exact up j' c' h7 h4 h5 h6
    have tV:jO.getD i true=true->∀q∈VG listed S.reverse k Γ,q.1∉c.map (·.1)->∀p∈c.take 1,p.1∉q.2.c6:=by
     intro hpt q hq hnk p hp e;obtain⟨l1,l2⟩:=lean i c hik hpt hp1 p hp;rcases zi.1 hq with⟨j,cj,hj,hlj,hqj,hqc,Jt⟩|⟨hq,_⟩
     ·rcases(l2 j cj hj hqj q hqc e).resolve_right (fun h=>by obtain⟨rfl,_⟩:=h;exact hni hlj)|>.2 with h|h
      ·exact hnk h
      ·rcases h with h|⟨m,hm,him,hme⟩
       ·exact hni<|hc j hlj i h
       ·have hlm:=agw m hm;have hmk:m<k:=by
         apply eK;intro Um;exact RP m (by omega) (hsz▸ai4 hlm) hlm
        obtain⟨cm,hcm,_⟩:=pure m ops[m] hmk (by simp<;>omega);rw[key m cm hcm] at hme;obtain⟨y,hy1,hy2⟩:=bT.1<|PR hme
        exact Jt m cm (by omega) hmk hlm hcm y hy1 hy2
     ·exact l1<|hL▸Kb hq e
    have Ud:jO.getD i true=true->∀q∈c.take 1,∀p∈c.take 1,p.1∉q.2.c6:=by
     intro hpt q hq p hp e;rcases(lean i c hik hpt hp1 p hp).2 i c hik hp1 q (zx hq) e with h|h
     ·exact h.1 rfl
     ·exact h.2 q hq rfl
    obtain⟨Γn,C6,X2⟩:=hex _ hin tV Ud;refine aeM ho (Gc ij (AA (i:=i) (by rw[List.getElem?_take_of_lt hik];simpa using ho)))<|C6 w0 H0 a w H dh _ Q fun a' w' H' Sj=>?_
    refine ih _ _ w' H' (by simp[hsz]) ?_ ?_ ?_<|Sj.weaken ?_
    ·intro m hm x hx;rw[yz hil] at hm⊢;rcases hm with hm|hm
     ·subst hm;exact .inr<|agw x hx
     ·exact .inr<|hc m hm x hx
    ·intro m hm1 hm2;rw[yz hil];rintro(h|h)
     ·omega
     ·exact RP m hm1 hm2 h
    ·have:=Xm hil hni;omega
    ·intro q hq;refine X2 q ?_;rcases zi.1 hq with⟨j,cj,hj,hlj,hqj,hqc,Jt⟩|⟨hq,Jt⟩
     ·by_cases hji:j=i
      ·subst hji;rw[hp1] at hqj;cases hqj;exact pd _ hqc
      ·have al4:yc listed j:=by
        rw[yz hil] at hlj;rcases hlj with h|h
        ·exact absurd h hji
        ·exact h
       refine AD _ (BF.2 ⟨zi.2 (.inl ⟨j,cj,hj,al4,hqj,hqc,fun j' q' h3 h4 h5 h6=>Jt j' q' h3 h4 (by rw[yz hil];exact .inr h5) h6⟩),fun e=>?_⟩);obtain⟨p,hp,e⟩:=bT.1 e;rcases kQ i j with h7|h7
       ·exact hni<|hc j al4 i<|aj7 i j c cj h7 hj hp1 hqj<| .inr<| .inl ⟨p,hp,q,hqc,e⟩
       ·exact Jt i c (by omega) hik (by rw[yz hil];exact .inl rfl) hp1 p hp e
     ·refine AD _ (BF.2 ⟨zi.2 (.inr ⟨hq,fun j q' h4 h5 h6=>Jt j q' h4 (by rw[yz hil];exact .inr h5) h6⟩),fun e=>?_⟩);obtain⟨p,hp,e⟩:=bT.1 e;exact Jt i c hik (by rw[yz hil];exact .inl rfl) hp1 p hp e
   ·exfalso;exact hn0 (agw j0 (Wg i (by omega) Uk j0 hj0))
def WE{Γ:Ctx}(ij:uG (ops.toList.take k)=true)(Sn:El ops av=true)(Sk:UP k kl jP jO L av=true)(RM:yC ops k av=true)
 (RP:S.reverse.map Gj=kl)(hL:vk Γ=L)
 (hp:jr P N ops Γ [] (ops.toList.take k) jP jO S)(Ee:ye (S.flatten++Γ) ts Fl)
 (Sm:∀a w H,Sat w0 H0 N Fl a w H->wpListIn (jd w0.rd) 0 P ops Q (ops.toList.drop k) a w):
  ∀(fuel:Nat) (listed:awa Bool) (a:Act) (w:arG) (H:HV),listed.size=ops.size->(∀m,yc listed m->∀j∈av.getD m [],yc listed j)->(∀i,k<=i->i<ops.size-> ¬yc listed i)->
   unl listed<=fuel->Sat w0 H0 N (VG listed S.reverse k Γ) a w H->AM (jd w0.rd) P ops Q fuel listed a w:=by
 have ai9:=RM;simp only[yC,bY,dI,yt,rX,vj,AB] at ai9;have hkn:k<=ops.size:=ai9.1;refine UE ij Sn Sk hkn (fun i hi hn j hj=>?_) RP hL hp Ee fun fuel listed a w H hsz hl hc hu hs=>Vv Sn RM _ k fuel listed a w rfl (bp _) hkn hsz hl hc hu<|Sm a w H hs
 rcases ai9.2 i hn with h|h
 ·omega
 ·exact h j (by omega)
def Xg{Γ:Ctx}{id:Nat}(hm:P.follows .mixedOrders=true)(ij:uG (ops.toList.take k)=true)(Sn:El ops av=true)(Sk:UP k kl jP jO L av=true)(RM:yC ops k av=true)
 (RP:S.reverse.map Gj=kl)(hL:vk Γ=L)
 (hp:jr P N ops Γ [] (ops.toList.take k) jP jO S)(Ee:ye (S.flatten++Γ) ts Fl)
 (Sm:∀a w H,Sat w0 H0 N Fl a w H->wpListIn (jd w0.rd) 0 P ops Q (ops.toList.drop k) a w)
 {H:HV}(hs:Sat w0 H0 N Γ a w H):(Code.region id ops true).wpIn (jd w0.rd) 0 P Q a w:=by
 refine Kp hm (WE ij Sn Sk RM RP hL hp Ee Sm ops.size _ a _ H (by simp) ?_ ?_ ?_ ?_)
 ·intro m h;exact absurd h uM
 ·intro i _ hi h;exact absurd h uM
 ·simp[unl]
 ·have he:Ext w H {w with drawn:=w.drawn+1} H:=⟨⟨⟨rfl,rfl,rfl,bp _,fun _ _=>rfl⟩,JQ.of<|wR _⟩,HV.le.refl _,fun _ _=>rfl,hs.sub⟩;refine(Hf hs he).weaken fun q hq=>?_
  rcases zi.1 hq with⟨j,_,_,hl,_⟩|⟨hq,_⟩
  ·exact absurd hl uM
  ·exact hq
end
section
variable[D:DR]
def Goal(P:atp)(w0:ar P)(H0:HV)(N:Nat)(c:Code)(Q:Exit->Act->arG->Prop)(Γ:Ctx):Prop:=
 ∀a w H,Sat w0 H0 N Γ a w H->c.wpIn (jd w0.rd) 0 P Q a w
def oU{P:atp}(w0:ar P)(H0:HV)(N:Nat)(K:Act->arG->Prop)(Γ:Ctx):Prop:=∀a w H,Sat w0 H0 N Γ a w H->K a w
end
section
variable[D:DR]
variable{P:Program}{w0:ar P}{H0:HV}{N:Nat}{Q:Exit->Act->World->Prop}{Γ aA:Ctx}
variable{w:arG}{ρ:Type}{a:Act}{fn:Func}{c:Code}{r:ρ}{H:HV}{args:att Ty}{id:Nat}{ts:att Nat}{n:Nat}{α:Type}{f:FuncId}{E:ato}{sz:Nat}{rs:att ResultVar}{l:att Ty}{x:Code}{t:Nat}{b:Bool}{K:α->av8 ρ}
def ae{y:Code}(h:Goal P w0 H0 N x (Exit.then (y.wpIn (jd w0.rd) 0 P Q) Q) Γ):Goal P w0 H0 N (.seq x y) Q Γ:=fun a w H hs=>wpIn_seq<|h a w H hs
def Uw{l:att Oper}(ij:uG l=true)(h:ue P w0 N l.toArray l Γ aA)(k:oU w0 H0 N (Q .normal) aA):Goal P w0 H0 N (.region id l.toArray false) Q Γ:=
 fun a w H hs=>wpIn_region_lit<|h.sound ij H0 a w H hs Q k
def ajT{ops:awa Oper}{k:Nat}{S:att Ctx}{Fl:Ctx}(ij:uG ops.toList=true)(kl:att (att<|Nat×att Nat))(L:att Nat)(av jP:att (att Nat))(jO:att Bool)(hm:P.follows .mixedOrders=true)(hc:(El ops av&&UP k kl jP jO L av&&yC ops k av)=true)
 (hp:jr P N ops Γ [] (ops.toList.take k) jP jO S)(RP:S.reverse.map Gj=kl)(hL:vk Γ=L)(Ee:ye (S.flatten++Γ) ts Fl)(Sm:ue P w0 N ops (ops.toList.drop k) Fl aA)(kk:oU w0 H0 N (Q .normal) aA):Goal P w0 H0 N (.region id ops true) Q Γ:=by
 simp only[bY] at hc;have h1:uG (ops.toList.take k)=true:=dI.2 fun o ho=>dI.1 ij o<|zx ho
 have h2:uG (ops.toList.drop k)=true:=dI.2 fun o ho=>dI.1 ij o<|yx ho
 exact fun a w H hs=>Xg hm h1 hc.1.1 hc.1.2 hc.2 RP hL hp Ee (H0:=H0) (fun a w H hs=>Sm.sound h2 H0 a w H hs Q kk) hs
def ah(k:oU w0 H0 N (Q .normal) Γ):Goal P w0 H0 N .skip Q Γ:=fun a w H hs=>wpIn_skip<|k a w H hs
def an(k:oU w0 H0 N (Q .ret) Γ):Goal P w0 H0 N .ret Q Γ:=fun a w H hs=>wpIn_ret<|k a w H hs
def aR(k:oU w0 H0 N (Q<| .exit id) Γ):Goal P w0 H0 N (.exit id) Q Γ:=fun a w H hs=>wpIn_exit<|k a w H hs
def ai(h:Goal P w0 H0 N c (Exit.inBlock id Q) Γ):Goal P w0 H0 N (.block id c) Q Γ:=fun a w H hs=>wpIn_block<|h a w H hs
def Gt{y:Code}(hl:look Γ t=some (.val<|bj b))(hx:b=true->Goal P w0 H0 N x Q Γ)(hy:b=false->Goal P w0 H0 N y Q Γ):Goal P w0 H0 N (.cond (.tmp t) x y) Q Γ:=by
 intro a w H hs;have hv:bh a t= .bool b:=hs.holds _<|aF hl
 exact wpIn_cond_split (t:=b) hv (fun h=>hx h a w H hs)<|fun h=>hy h a w H hs
def vo(h:ye Γ ts aA)(k:Goal P w0 H0 N c Q aA):Goal P w0 H0 N c Q Γ:=fun a w H hs=>k a w H<|hs.weaken h.sub
def wp_loop_ghost{F:Fence}{ι:Type}(I:ι->Act->arG->Prop)(μ:ι->Nat)(i0:ι)(aoY:I i0 a w)
 (round:∀i x y,I i x y->c.wpIn F n P (Exit.then (fun a' w'=>∃j,I j a' w'/\μ j<μ i) Q) x y):(Code.loop c).wpIn F n P Q a w:=by
 intro b k cs hro hb hr;have key:∀n i a w,μ i=n->I i a w->∃e a' w',Q e a' w'/\ArrivesIn (Machine.fenced P F) P (lone (b.atR a (.code c:: .inLoop c::k)) cs w) b k cs e a' w':=by
  intro n
  induction n using Nat.strongRecOn with
  |_ n ih=>
   intro i a w hn hI;obtain⟨e,a1,w1,hq,Us⟩:=round i a w hI b (.inLoop c::k) cs hro hb hr;cases e with
   |normal=>
    obtain⟨j,hj,hlt⟩:=hq;obtain⟨e2,a2,w2,hq2,amI⟩:=ih (μ j) (hn▸hlt) j a1 w1 rfl hj;exact⟨e2,a2,w2,hq2,.of_steps (StepsIn.trans Us<| .one (fenced_calm hb hr rfl) stepR_inLoop) amI⟩
   |exit id=>exact⟨_,a1,w1,hq,.pass (x:= .inLoop c) rfl (fun _ _=> .inl (by simp)) Us⟩
   |goto l=>exact⟨_,a1,w1,hq,.pass (x:= .inLoop c) rfl (fun _ _=> .inl (by simp)) Us⟩
   |ret=>exact⟨_,a1,w1,hq,.pass (x:= .inLoop c) rfl (fun _ _=> .inl (by simp)) Us⟩
   |panic ch=>exact⟨_,a1,w1,hq,.pass (x:= .inLoop c) rfl (fun _ _=> .inl (by simp)) Us⟩
   |outgrown=>exact⟨_,a1,w1,hq,.pass (x:= .inLoop c) rfl (fun _ _=> .inl (by simp)) Us⟩
 obtain⟨e,a',w',hq,Us⟩:=key _ i0 a w rfl aoY;exact⟨e,a',w',hq,.of_steps (.one (fenced_calm hb hr rfl) stepR_loop) Us⟩
def AH(h:ub w0 N Γ aA)(k:Goal P w0 H0 N c Q aA):Goal P w0 H0 N c Q Γ:=fun a w H hs=>by
 obtain⟨H',ui⟩:=h H0 a w H hs;exact k a w H' ui
def dZ{K:Act->arG->Prop}(h:ub w0 N Γ aA)(k:oU w0 H0 N K aA):oU w0 H0 N K Γ:=fun a w H hs=>by
 obtain⟨H',ui⟩:=h H0 a w H hs;exact k a w H' ui
def bd{α ρ:Type}(e:av8 α)(K:α->av8 ρ):av8 ρ:=match e with
 |none=>none
 |some x=>K x
def gC{ρ:Type}(c:Bool)(K:av8 ρ):av8 ρ:=match c with
 |true=>K
 |false=>none
def iJ{α ρ:Type}(g:Bool)(d:α)(e:av8 α)(K:α->av8 ρ):av8 ρ:=match g with
 |true=>bd e K
 |false=>K d
def jn{α ρ:Type}(K:α->av8 ρ)(E:(α->av8 ρ)->av8 ρ):av8 ρ:=E K
def lp{σ ρ:Type}:Nat->((σ->av8 ρ)->σ->av8 ρ)->σ->av8 ρ
 |0,_,_=>none
 |n+1,B,s=>B (lp n B) s
def aN{e:av8 α}(h:bd e K=some r):∃x,e=some x/\K x=some r:=by
 cases e with
 |none=>cases h
 |some x=>exact⟨x,rfl,h⟩
def Fa{c:Bool}{K:av8 ρ}(h:gC c K=some r):c=true/\K=some r:=by
 cases c
 ·cases h
 ·exact⟨rfl,h⟩
def Hy{g:Bool}{d:α}{e:av8 α}(h:iJ g d e K=some r):∃x,(g=true->e=some x)/\K x=some r:=by
 cases g
 ·exact⟨d,(fun e=>nomatch e),h⟩
 ·obtain⟨x,h1,h2⟩:=aN h;exact⟨x,fun _=>h1,h2⟩
def aj8{x y:av8 ρ}{r:av8 ρ}(h:cond b x y=r)(hb:b=true):x=r:=by subst hb;exact h
def aj9{x y:av8 ρ}{r:av8 ρ}(h:cond b x y=r)(hb:b=false):y=r:=by subst hb;exact h
def Mid{P:atp}{α ρ:Type}(w0:ar P)(H0:HV)(N:Nat)(Pa:α->Ctx)(k:α->av8 ρ)(r:ρ)(a:Act)(w:arG):Prop:=∃i,k i=some r/\∃H,Sat w0 H0 N (Pa i) a w H
def Eg(Pa:α->Ctx){E:(α->av8 ρ)->av8 ρ}(hm:jn K E=some r)
 (h:∀k,E k=some r->Goal P w0 H0 N x (Exit.then (Mid w0 H0 N Pa k r) Q) Γ)(kk:∀i,K i=some r->oU w0 H0 N (Q .normal) (Pa i)):Goal P w0 H0 N x Q Γ:=
 fun a w H hs=>EK (h K hm a w H hs) fun e a' w' q=>by
  cases e with
  |normal=>obtain⟨i,hi,H',ui⟩:=q;exact kk i hi a' w' H' ui
  |_=>exact q
def ani{Pa:α->Ctx}{k:α->av8 ρ}{i:α}(hm:k i=some r)(h:ye Γ ts (Pa i)):oU w0 H0 N (fun a w=>Mid w0 H0 N Pa k r a w) Γ:=
 fun _ _ H hs=>⟨i,hm,H,hs.weaken h.sub⟩
def ac4{σ:Type}(eI:σ->Ctx){B:(σ->av8 ρ)->σ->av8 ρ}{s0:σ}(hm:lp n B s0=some r)(h0:ye Γ ts (eI s0))
 (round:∀(k:σ->av8 ρ) (s:σ),B k s=some r->Goal P w0 H0 N c (Exit.then (Mid w0 H0 N eI k r) Q) (eI s)):Goal P w0 H0 N (.loop c) Q Γ:=by
 intro a w H hs;refine wp_loop_ghost (fun(i:Nat×σ) a w=>lp i.1 B i.2=some r/\∃H,Sat w0 H0 N (eI i.2) a w H) (fun i=>i.1) (n,s0) ⟨hm,H,hs.weaken h0.sub⟩ ?_;rintro⟨m,s⟩ a w ⟨hl,H,hs⟩;cases m with
 |zero=>cases hl
 |succ m=>
  refine EK (round (lp m B) s hl a w H hs) fun e a' w' q=>?_
  cases e with
  |normal=>obtain⟨i,hi,H',ui⟩:=q;exact⟨(m,i),⟨hi,H',ui⟩,Nat.lt_succ_self m⟩
  |_=>exact q
inductive Res where
 |vs(l:att Ty)
 |fr(E:ato)(sz:Nat)(l:att Ty)
def xi(H:HV):att Ty->arH->Prop
 |[τ],v=>τ.ok H v
 |l,v=>∃vs,v= .tuple vs/\Ce H l vs.toList
def Res.holds(n:Nat)(w:arG)(H:HV)(v:arH):Res->Prop
 | .vs l=>xi H l v
 | .fr E sz l=>∃xs,w.ownsRow 0 E sz v l.length xs/\vH H l xs/\∀b,v.ownBlock=some b->n<=b/\H b=none
def fR(P:atp)(f:FuncId):Bool:=
 match P.funcs[f]? with
 |some fn=>fn.body.isSome&& !(fn.name== "runtime.NumGoroutine")
 |none=>false
def Returns(w:arG)(H:HV)(dU:Res)(e:Ending)(w':arG):Prop:=
 ∃v,e= .returned v/\Ex w.heap.size w w'/\∃H',(∀r,r<w.heap.size->H' r=H r)/\(∀r o,H' r=some o->w'.heap[r]? =some o)/\dU.holds w.heap.size w' H' v
structure fN(P:atp)(f:FuncId)(args:att Ty)(dU:Res):Prop where
 can:fR P f=true
 run:∀(w:arG) (H:HV) (vs:att arH),(∀r o,H r=some o->w.heap[r]? =some o)->qU P H->Ce H args vs->Calls P f vs.toArray w (Returns w H dU)
def fN.aoe{dU:Res}(h: @fN DR.strict P f args dU):fN P f args dU:=
 ⟨fN.can (D:=DR.strict) h,fun w H vs sub gl ha=>(fN.run (D:=DR.strict) h w H vs sub gl ha).mono fun e w' ⟨v,e1,hb,r⟩=>⟨v,e1,⟨Ex.toBelow (D:=DR.strict) hb,JQ.of<|Ex.drawn (D:=DR.strict) hb⟩,r⟩⟩
def lC:Nat->att Ty->Ctx
 |_,[]=>[]
 |i,τ::l=>(i,.val τ)::lC (i+1) l
def AJ{H:HV}{B:ar P}{a:Act}{w:arG}:∀{l:att Ty} {vs:att arH} (i:Nat),Ce H l vs->(∀j v,vs[j]? =some v->bh a (i+j)=v)->∀p∈lC i l,p.2.holds B a w H (bh a p.1)
 |[],_,_,_,_,p,hp=>by simp[lC] at hp
 |τ::l,_,i,⟨v,rest,e,hv,hr⟩,hg,p,hp=>by
  subst e;simp only[lC,aY] at hp;rcases hp with e|hp
  ·subst e;have:=hg 0 v rfl;simp only[Al] at this;rw[this];exact hv
  ·exact AJ (i+1) hr (fun j v hj=>by have:=hg (j+1) v (by simpa using hj);rw[<-this];congr 1;omega) p hp
def Gv{w:arG}{v:arH}{b:Nat}:∀{l:att Ty} {i:Nat},∀p∈lC i l,¬p.2.owns w v b
 |[],_,p,hp=>by simp[lC] at hp
 |τ::l,i,p,hp=>by
  simp only[lC,aY] at hp;rcases hp with e|hp
  ·subst e;exact fun h=>h
  ·exact Gv p hp
def P8{vs:att arH}(sub:∀r o,H r=some o->w.heap[r]? =some o)(gl:qU P H)(ij:Ce H args vs)(hn:args.length<=n):
  Sat (ar.call P w) H n (lC 0 args) {tmps:=vs.toArray++Array.replicate (n-vs.toArray.size) undef,defers:=[]} w H:=by
 have hl:=Aa ij;refine⟨trivial,by simp;omega,⟨rfl,rfl,rfl,bp _,bp _,fun _ _ _ _=>rfl⟩,fun _ _ _ _=>rfl,sub,?_,?_,gl⟩
 ·refine AJ 0 ij fun j v hj=>?_
  have P4:=(kE.1 hj).1;have e:(vs.toArray++Array.replicate (n-vs.toArray.size) undef)[0+j]? =some v:=by
   rw[Array.getElem?_append_left (by simpa using P4)];simpa using hj
  simp[bh,CA];simp at e;rw[e];rfl
 ·intro p hp q _ _ b hb;exact absurd hb<|Gv p hp
inductive bg(P:atp)(Γ:Ctx):att ResultVar->att Ty->Prop where
 |nil:bg P Γ [] []
 |tmp {t:Nat} {τ Ey:Ty} {rs:att ResultVar} {l:att Ty} (h:look Γ t=some (.val τ)) (hi:τ=Ey) (r:bg P Γ rs l):bg P Γ (.tmp t::rs) (Ey::l)
 |cell {t T:Nat} {T':ato} {τ Ey:Ty} {rs:att ResultVar} {l:att Ty} (h:look Γ t=some (.own T' τ)) (hT:∀(w:arG) (b:Nat) (x:arH) (E:ato),w.heap[b]? =some (.cells x.cells E (0,0))->Shape τ.n τ.agg x->(loadVar T ⟨b,0,none⟩).run P w= .ok x w)
   (hi:τ=Ey) (r:bg P Γ rs l):bg P Γ (.cell t T::rs) (Ey::l)
def Bz(tmps:awa arH):ResultVar->Sem arH
 | .tmp t=>pure<|tmps.getD t undef
 | .cell a t=>do loadVar t (<-asAddr (tmps.getD a undef))
def AK{bl:att Ty}{H':HV}{B:ar P}{v:arH}(h:(bO.buf E sz bl).holds B a w H v)(hle:HV.le H H')(hw:∀b,v.ownBlock=some b->B.nX b->∀o,w.heap[b]? =some o->H' b=some o):(Fj bl).ok H' v:=by
 obtain⟨xs,⟨hx,hc⟩,ho,hn⟩:=h;rcases hc with⟨e,hl⟩|⟨g,cap,cur,e,hB,hg,hcap,hm,hcs,ht⟩
 ·subst e;exact⟨none,0,by rw[hl],by omega,fun hne=>absurd (pZ hl) hne⟩
 ·subst e;refine⟨_,cap,rfl,hcap,fun _=>⟨g,0,cur,E,(0,0),rfl,hw g rfl (hn g rfl).2 _ hg,?_,?_⟩⟩
  ·have h1:=rf ho;have h2:xs.length<=cur.size:=by rw[<-ht];simp;exact Nat.min_le_right _ _
   omega
  ·have h1:=rf ho;rw[wU,<-h1,hx,ht];exact uL hle ho
def bg.run{rs:att ResultVar}{l:att Ty}(h:bg P Γ rs l){a:Act}{w:arG}{H:HV}(hs:Sat w0 H0 N Γ a w H):
  ∃vs,(rs.mapM<|Bz a.tmps).run P w= .ok vs w/\Ce H l vs:=by
 induction h with
 |nil=>exact⟨[],by simp,rfl⟩
 | @tmp t τ Ey rs l h hi _ ih=>
  subst hi;obtain⟨vs,h1,h2⟩:=ih;have hv:τ.ok H (bh a t):=hs.holds _<|aF h
  refine⟨bh a t::vs,?_,_,_,rfl,hv,h2⟩;simp only[List.mapM_cons,fE,h1,Bz,pT,eS]
  rfl
 | @cell t T T' τ Ey rs l h hT hi _ ih=>
  subst hi;obtain⟨vs,h1,h2⟩:=ih;obtain⟨b,x,e,hb,hx,hn,hB⟩:=hs.holds _<|aF h
  refine⟨x::vs,?_,_,_,rfl,hx,h2⟩;have e':a.tmps.getD t undef= .pointer (some ⟨b,0,none⟩):=e;simp only[List.mapM_cons,fE,Bz,e',asAddr,pT,eS,hT w b x T' hb<|τ.shape hx,h1]
def CQ(P:atp)(fn:Func)(w0:ar P)(H0:HV)(dU:Res):Exit->Act->arG->Prop:=bodyPostM (jd none) 0 P fn<|Returns w0.w H0 dU
def tT{w0:ar P}{H0:HV}{N:Nat}{Γ:Ctx}{a:Act}{fn:Func}{R:Ending->arG->Prop}{F:Fence}{n:Nat}(hds:w0.ds=[])(hrd:w0.rd=none):∀{ds:att Deferred} {w:arG} {H:HV},Sat w0 H0 N Γ {a with defers:=ds} w H->
  (∀w' H',Sat w0 H0 N Γ {a with defers:=[]} w' H'->∃v,(results fn a.tmps).run P w'= .ok v w'/\R (.returned v) w')->LeavesInM F n P fn a.tmps R ds .returning w
 |[],w,H,hs,k=>k w H hs
 |d::ds,w,H,hs,k=>by
  have Sk:=hs.nd;rw[hds,rW] at Sk;obtain⟨⟨D,e,h1,h2,h3,h4⟩,hr⟩:=Sk;have h1:=h1 hrd;subst e;refine⟨(by simp),.inl ⟨D,_,rfl,run_takeDeferred h2,?_⟩⟩;refine tT hds hrd (H:=H) ?_ k;have hg:CR w (w.putObj D<| .deferred none) (some D):=⟨⟨rfl,rfl,rfl,by simp,fun j _ hj=>Ik (fun e=>hj (by rw[e]))⟩,bp _⟩;have hne:∀b,b≠D->(w.putObj D<| .deferred none).heap[b]? =w.heap[b]? :=fun b hb=>Ik hb
  refine Bx (a:={a with defers:={target:= .collected D,args:= #[]}::ds}) hs (hs.below.Fs hg fun j e=>by cases e;exact .inl h1) hg.drawn (fun _ _ _ _=>rfl) (by simp) (HV.le.refl _) ?_ ?_ ?_ ?_
  ·intro r o h;rw[hne r (fun e=>by subst e;rw[h3] at h;cases h)];exact hs.sub r o h
  ·intro _ b _ hb;exact⟨hne b (fun e=>by subst e;have:=ar.lo_le (b:=w0);omega),rfl⟩
  ·intro p hp;refine⟨hp,fun b hb=>⟨hne b fun e=>?_,rfl⟩⟩;subst e;obtain⟨_,_,o,ho,Vg⟩:=bO.oq (hs.holds p hp) hb;rw[h2] at ho;cases ho;exact Vg
  ·have:∀{l:att Deferred},(∀e∈l,e≠{target:= .collected D,args:= #[]})->Marks w0 w H l->Marks w0 (w.putObj D<| .deferred none) H l:=by
    intro l
    induction l with
    |nil=>exact fun _ _=>trivial
    |cons x l ih=>
     rintro hn ⟨⟨D',e,g1,g2,g3,g4⟩,gr⟩;have hD:D'≠D:=fun eD=>hn x (by simp) (by rw[e,eD])
     exact⟨⟨D',e,g1,by rw[hne D' hD];exact g2,g3,g4⟩,ih (fun y hy=>hn y (by simp[hy])) gr⟩
   rw[hds,rW];exact this h4 hr
def y9(hr:fn.results=rs.toArray)(tmps:awa arH):results fn tmps=(do let vs<-List.toArray<$>rs.mapM (Bz tmps);pure (if h:vs.size=1 then vs[0] else .tuple vs)):=by
 unfold results;rw[hr,List.mapM_toArray]
 congr 2
def afs{dU:att Ty}(hX:(w0.X,w0.OG,w0.ds,w0.rd)=(Sh,false,[],none))(hr:fn.results=rs.toArray)(h:bg P Γ rs dU)(hs:Sat w0 H0 N Γ a w H):
  LeavesInM (jd none) 0 P fn a.tmps (Returns w0.w H0<| .vs dU) a.defers .returning w:=by
 refine tT (congrArg (fun p=>p.2.2.1) hX) (congrArg (fun p=>p.2.2.2) hX) (a:=a) (ds:=a.defers) hs fun w H hs=>?_
 have hX':w0.X=Sh:=congrArg Prod.fst hX;have hV:w0.OG=false:=congrArg (fun p=>p.2.1) hX;obtain⟨vs,h1,h2⟩:=h.run hs;have hl:=Aa h2;rw[y9 hr];simp only[fE,Sem.run_map,h1,eS,pT];refine⟨_,rfl,_,rfl,hs.below.below hX' hV,H,(fun r hr=>hs.Jm hV r hr (by rw[hX'];exact fun h=>h)),hs.sub,?_⟩
 match dU,h2,hl with
 |[],h2,hl=>
  have:vs=[]:=h2;subst this;exact⟨#[],rfl,rfl⟩
 |[τ],h2,hl=>
  obtain⟨v,rest,e,hv,hr⟩:=h2;have:rest=[]:=hr;subst this;subst e;exact hv
 |τ::Ey::l,h2,hl=>
  have: ¬vs.toArray.size=1:=by simp[hl]
  rw[dif_neg this];exact⟨vs.toArray,rfl,by simpa using h2⟩
def VP{l':att Ty}(hX:(w0.X,w0.OG,w0.ds,w0.rd)=(Sh,false,[],none))(hr:fn.results=[.tmp t].toArray)(h:look Γ t=some (.buf E sz l))(hi:l=l')(hs:Sat w0 H0 N Γ a w H):
  LeavesInM (jd none) 0 P fn a.tmps (Returns w0.w H0<| .fr E sz l') a.defers .returning w:=by
 subst hi;refine tT (congrArg (fun p=>p.2.2.1) hX) (congrArg (fun p=>p.2.2.2) hX) (a:=a) (ds:=a.defers) hs fun w H hs=>?_
 have hX':w0.X=Sh:=congrArg Prod.fst hX;have hV:w0.OG=false:=congrArg (fun p=>p.2.1) hX;obtain⟨xs,h1,h2,h3⟩:=hs.holds _<|aF h
 rw[y9 hr];refine⟨bh a t,?_,_,rfl,hs.below.below hX' hV,H,(fun r hr=>hs.Jm hV r hr (by rw[hX'];exact fun h=>h)),hs.sub,xs,h1,h2,fun b hb=>⟨?_,(h3 b hb).1⟩⟩
 ·simp[Bz,bh]
 ·rcases(h3 b hb).2 with h|h
  ·exact h
  ·rw[hX'] at h;exact h.elim
def eM{dU:att Ty}(hX:(w0.X,w0.OG,w0.ds,w0.rd)=(Sh,false,[],none))(hr:fn.results=rs.toArray)(h:bg P Γ rs dU):oU w0 H0 N (fun a w=>CQ P fn w0 H0 (.vs dU) .ret a w) Γ:=fun _ _ _ hs=>afs hX hr h hs
def NY{l':att Ty}(hX:(w0.X,w0.OG,w0.ds,w0.rd)=(Sh,false,[],none))(hr:fn.results=[.tmp t].toArray)(h:look Γ t=some (.buf E sz l))(hi:l=l'):oU w0 H0 N (fun a w=>CQ P fn w0 H0 (.fr E sz l') .ret a w) Γ:=fun _ _ _ hs=>VP hX hr h hi hs
def Vz{dU:Res}{N:Nat}(hf:P.funcs[f]? =some fn)(hb:fn.body=some c)(hN:fn.ntmps=N)(hn:args.length<=N)(hc:fR P f=true)
 (h:∀w0 H0,Goal P (ar.call P w0) H0 N c (CQ P fn (ar.call P w0) H0 dU)<|lC 0 args):fN P f args dU:=by
 subst hN;exact⟨hc,fun w H _ sub gl ij=>(callsIn_wide (n:=0)).1<|callsIn_of_wp_marks (F:=Fence.wide) hf hb trivial<|h w H _ w H<|P8 sub gl ij hn⟩
def fN.congr{Qm:att Ty}{dU xY:Res}(h:fN P f args dU)(ha:args=Qm)(hr:dU=xY):fN P f Qm xY:=ha▸hr▸h
def fN.pub(h:fN P f args (.fr E sz l)):fN P f args (.vs [Fj l]):=
 ⟨h.can,fun w H vs sub gl ij=>(h.run w H vs sub gl ij).mono fun _ w' ⟨v,e,hb,H',h1,h2,xs,h3,h4,h5⟩=>by
  refine⟨v,e,hb,fun r=>if v.ownBlock=some r then w'.heap[r]? else H' r,?_,?_,?_⟩
  ·intro r hr;have:v.ownBlock≠some r:=fun e=>by have:=(h5 r e).1;omega
   simp[this,h1 r hr]
  ·intro r o ho;by_cases e:v.ownBlock=some r
   ·simpa[e] using ho
   ·simp only[e,if_false] at ho;exact h2 r o ho
  ·have hle:HV.le H' (fun r=>if v.ownBlock=some r then w'.heap[r]? else H' r):=by
    intro r o ho;by_cases e:v.ownBlock=some r
    ·rw[(h5 r e).2] at ho;cases ho
    ·simp[e,ho]
   exact AK (a:=⟨#[],[]⟩) (B:=ar.call P w) (w:=w') ⟨xs,h3,h4,fun b hb=>⟨(h5 b hb).2,.inl (h5 b hb).1⟩⟩ hle (fun b hb _ o hbo=>by simp[hb,hbo])⟩
end
section
variable[D:DR]
variable{P:Program}{N:Nat}{ops:Array Oper}{Γ aA:Ctx}
variable{s:bO}{τ:Ty}
def jB{o:Oper}(h:∀(w0:ar P) (H0:HV) (N:Nat) (a:Act) (w:arG) (H:HV),Sat w0 H0 N Γ a w H->
 ∃v w' H',(execOp a.eval o).run P w= .ok (.value v) w'/\Ext w H w' H'/\s.holds w0 a w' H' v/\∀b,s.owns w' v b->w.heap.size<=b):bR P Γ o s:=by
 intro w0 H0 N a w H hs K Q k;obtain⟨v,w',H',hr,he,hv,hb⟩:=h w0 H0 N a w H hs;unfold Oper.wp;rw[hr,ve];exact k v w' H' he hv hb
def bE{o:Oper}(h:∀(w0:ar P) (H0:HV) (N:Nat) (a:Act) (w:arG) (H:HV),Sat w0 H0 N Γ a w H->
 ∃v,(execOp a.eval o).run P w= .ok (.value v) w/\s.holds w0 a w H v/\s.free=true):bR P Γ o s:=
 jB fun w0 H0 N a w H hs=>by
  obtain⟨v,hr,hv,hb⟩:=h w0 H0 N a w H hs;exact⟨v,w,H,hr,Ext.refl hs.sub,hv,fun b e=>absurd e<|bO.free_spec hb⟩
def ZK{o:Oper}(h:∀(w0:ar P) (H0:HV) (N:Nat) (a:Act) (w:arG) (H:HV),Sat w0 H0 N Γ a w H->
 ∃v,(execOp a.eval o).run P w= .ok (.value v) w/\s.holds w0 a w H v/\∀b,¬s.owns w v b):bR P Γ o s:=
 jB fun w0 H0 N a w H hs=>by
  obtain⟨v,hr,hv,hb⟩:=h w0 H0 N a w H hs;exact⟨v,w,H,hr,Ext.refl hs.sub,hv,fun b e=>absurd e<|hb b⟩
structure Arg(Γ:Ctx)(x:atq)(τ:Ty):Prop where
 ok:∀{P':atp} {w0:ar P'} {H0:HV} {N:Nat} {a:Act} {w:arG} {H:HV},Sat w0 H0 N Γ a w H->τ.ok H (a.eval x)
def Arg.t{t:Nat}{τ:Ty}(h:look Γ t=some (.val τ)):Arg Γ (.tmp t) τ:=⟨fun hs=>hs.holds _<|aF h⟩
def Arg.o{t:Nat}{c:Bool}(h:look Γ t=some (.opt c<| .val τ))(hc:c=true):Arg Γ (.tmp t) τ:=⟨fun hs=>(hs.holds _<|aF h).1 hc⟩
def Arg.int{k:IntKind}{n:Int}:Arg Γ (.const<| .int k n) (TI k n):=⟨fun _=>rfl⟩
def Arg.bool{b:Bool}:Arg Γ (.const<| .bool b) (bj b):=⟨fun _=>rfl⟩
def Arg.ahq:Arg Γ (.const<| .slice none 0 0) (Fj []):=⟨fun _=>⟨none,0,rfl,bp _,fun h=>absurd rfl h⟩⟩
def Arg.imp{x:atq}{Ey:Ty}(h:Arg Γ x τ)(hi:∀H v,τ.ok H v->Ey.ok H v):Arg Γ x Ey:=⟨fun hs=>hi _ _<|h.ok hs⟩
end
section
variable[D:DR]
variable{P:Program}{N:Nat}{ops:Array Oper}{Γ aA:Ctx}
variable{d:Option Tmp}{ty:TypeId}{pos:String}{af:Array Edge}{g:Option (Nat×Bool)}
variable{T:ato}{τ:Ty}{t sz off:Nat}{x:atq}{σ:Ty}{l:att Ty}{b:Bool}{k:IntKind}{i:Int}{n:Nat}{T':ato}{len:Nat}{c:atq}{w:arG}{cs:awa arH}{t' o:Nat}{H:HV}{ix:atq}
def Q7(h:Arg Γ x τ):bR P Γ ⟨d,.move x,ty,pos,af,g⟩ (.val τ):=
 bE fun _ _ _ a _ _ hs=>⟨a.eval x,rfl,h.ok hs,rfl⟩
def aC(h:Arg Γ x τ):bR P Γ ⟨d,.assign x,ty,pos,af,g⟩ (.val τ):=
 bE fun _ _ _ a _ _ hs=>⟨a.eval x,rfl,h.ok hs,rfl⟩
def uI(h:look Γ t=some (.Vb l)):bR P Γ ⟨d,.move<| .tmp t,ty,pos,af,g⟩ (.Vb l):=
 bE fun _ _ _ a _ _ hs=>⟨bh a t,rfl,hs.holds _<|aF h,rfl⟩
def fO{i:Nat}(h:look Γ t=some (.Vb l))(hi:l[i]? =some τ):bR P Γ ⟨d,.extract (.tmp t) i,ty,pos,af,g⟩ (.val τ):=
 bE fun _ _ _ a w _ hs=>by
  obtain⟨vs,e,ho⟩:=hs.holds _<|aF h
  obtain⟨v,hv,ij⟩:=abR ho hi;have e':a.eval (.tmp t)= .tuple vs:=e;refine⟨v,?_,ij,rfl⟩;have Vf:vs[i]? =some v:=by simpa using hv
  simp[execOp,e',Instr.extract,Vf]
def Lc{y:atq}(hc:Arg Γ c (bj b))(hx:b=true->Arg Γ x τ)(hy:b=false->Arg Γ y τ):bR P Γ ⟨d,.pick c x y,ty,pos,af,g⟩ (.val τ):=
 bE fun _ _ _ a w H hs=>by
  have e:a.eval c= .bool b:=hc.ok hs;refine⟨if b then a.eval x else a.eval y,?_,?_,rfl⟩
  ·simp[execOp,e,asBool]
  ·cases b
   ·simpa[bO.holds] using(hy rfl).ok hs
   ·simpa[bO.holds] using(hx rfl).ok hs
def jZ(h:b=true):gd b true=true:=h
def j8(h:b=false):gd b false=true:=by subst h;rfl
def FY{c:Bool}(h:b=true)(k:c=true):(b&&c)=true:=by subst h;subst k;rfl
def dD{e x:Bool}(hc:Arg Γ c (bj b))(hx:look Γ t=some (.opt e<| .val<|bj x))(he:b=true->e=true):bR P Γ ⟨d,.pick c (.tmp t)<| .const<| .bool false,ty,pos,af,g⟩ (.val<|bj<|b&&x):=by
 cases b
 ·exact Lc hc (fun h=>by cases h)<|fun _=>Arg.bool
 ·exact Lc hc (fun _=>by simpa using Arg.o hx (he rfl)) (fun h=>by cases h)
def gj{e x:Bool}(hc:Arg Γ c (bj b))(hx:look Γ t=some (.opt e<| .val<|bj x))(he:b=false->e=true):bR P Γ ⟨d,.pick c (.const<| .bool true)<| .tmp t,ty,pos,af,g⟩ (.val<|bj (b||x)):=by
 cases b
 ·exact Lc hc (fun h=>by cases h) (fun _=>by simpa using Arg.o hx (he rfl))
 ·exact Lc hc (fun _=>Arg.bool) (fun h=>by cases h)
def arE:TypeDesc->Bool
 | .struct _| .array _ _=>true
 |_=>false
def fM(P:atp)(T:ato)(n:Nat)(agg:Bool):Bool:=
 match P.info? T,P.underlying T with
 |some i,some d=>Nat.beq i.size n&&(arE d==agg)&&(agg||Nat.beq n 1)
 |_,_=>false
def aV{d:TypeDesc}(h:P.underlying T=some d)(w:arG):(underlying T).run P w= .ok d w:=by
 simp[underlying,program,Sem.run,h]
def T9{agg:Bool}(h:fM P T n agg=true):
  (∀w,(isAgg T).run P w= .ok agg w)/\(∀w,(Go.sizeOf T).run P w= .ok n w)/\(agg=false->n=1):=by
 unfold fM at h;split at h
 ·rename_i i dd hi hu;simp only[bY,rX,yq] at h;obtain⟨⟨h1,h2⟩,h3⟩:=h;have h1:=fL h1;refine⟨fun w=>?_,fun w=>?_,fun hf=>?_⟩
  ·simp only[isAgg,fE,aV hu,eS];subst h2;cases dd<;>rfl
  ·simp[Go.sizeOf,typeInfo,program,Sem.run,hi];simp[h1]
  ·rcases h3 with h3|h3
   ·rw[hf] at h3;cases h3
   ·exact fL h3
 ·cases h
def kv{agg:Bool}(h:fM P T n agg=true){b:Nat}{E:ato}{fr:Nat×Nat}(hb:w.heap[b]? =some (.cells cs E fr))(hl:off+n<=cs.size):
  (loadVar T ⟨b,off,none⟩).run P w= .ok (Jo agg ((cs.toList.drop off).take n).toArray) w:=by
 obtain⟨h1,h2,h3⟩:=T9 h;have ahT:∀j v,((cs.toList.drop off).take n)[j]? =some v->w.cell? ((⟨b,off,none⟩:Addr).add j)=some v:=by
  intro j v hj;have acO:(⟨b,off,none⟩:Addr).add j=⟨b,off+j,none⟩:=by unfold Addr.add;split<;>simp_all
  rw[acO];rw[yv] at hj;split at hj
  ·simp at hj;simp[World.cell?,hb,hj]
  ·cases hj
 have hlen:((cs.toList.drop off).take n).length=n:=by simp;omega
 cases agg
 ·have hn:=h3 rfl;subst hn;have hlt:off<cs.size:=by omega
  have hc:=ahT 0 cs[off] (by simp[hlt]);have acO:(⟨b,off,none⟩:Addr).add 0=⟨b,off,none⟩:=rfl;rw[acO] at hc;simp only[loadVar,fE,h1,eS];simp[load,Sem.run,hc,Jo,hlt]
 ·have:=run_loadCells_list (P:=P) w ⟨b,off,none⟩ _ ahT;rw[hlen] at this;simp only[loadVar,fE,h1,h2,eS,if_true,this]
  rfl
def IY{x:arH}(hn:x.cells.size=n):((x.cells.toList.drop 0).take n).toArray=x.cells:=by
 rw[wU,eF (by simp;omega)]
def nm{agg:Bool}(h:fM P T n agg=true)(w:arG)(b:Nat)(x:arH)(E:ato)(hb:w.heap[b]? =some (.cells x.cells E (0,0)))(hx:Shape n agg x):(loadVar T ⟨b,0,none⟩).run P w= .ok x w:=by
 rw[kv h hb (by rw[hx.size];omega),IY hx.size,<-hx.eq]
def ba(τ:Ty)(off:Nat)(σ:Ty):Prop:=∀(H:HV) (v:arH),τ.ok H v->off+σ.n<=v.cells.size/\σ.ok H (Jo σ.agg ((v.cells.toList.drop off).take σ.n).toArray)
def ba.agg{i:Nat}(h:l[i]? =some σ)(ho:cc (l.take i)=off):ba (ko l) off σ:=by
 rintro H v ⟨cs,e,ok⟩;subst e;subst ho;have:=pz ok h;simpa[Value.cells] using this
def ba.whole:ba τ 0 τ:=fun _ _ h=>by
 have hs:=τ.shape h;refine⟨by rw[hs.size];omega,?_⟩;rw[IY hs.size,<-hs.eq];exact h
def ba.imp{σ':Ty}(h:ba τ off σ)(hn:σ'.n=σ.n)(ha:σ'.agg=σ.agg)(hi:∀H v,σ.ok H v->σ'.ok H v):ba τ off σ':=fun H v hv=>by
 obtain⟨h1,h2⟩:=h H v hv;rw[hn,ha];exact⟨h1,hi _ _ h2⟩
def sP:(Jo true cs).cells=cs:=rfl
def ba.trans{ρ:Ty}{o1 o2:Nat}(h:ba τ o1 σ)(ha:σ.agg=true)(k:ba σ o2 ρ):ba τ (o1+o2) ρ:=fun H v hv=>by
 obtain⟨h1,h2⟩:=h H v hv;obtain⟨k1,k2⟩:=k H _ h2;rw[ha] at k1 k2;simp only[sP] at k1 k2;have hlen:(List.take σ.n<|List.drop o1 v.cells.toList).toArray.size=σ.n:=by simp;omega
 rw[hlen] at k1;refine⟨by omega,?_⟩;have:List.take ρ.n (List.drop o2<|List.take σ.n<|List.drop o1 v.cells.toList)=List.take ρ.n (List.drop (o1+o2) v.cells.toList):=by
  rw[uY,tj,iS]
  congr 1
  omega
 simpa[this] using k2
def ak(h:look Γ t=some (.own T' τ))(hT:fM P T τ.n τ.agg=true):bR P Γ ⟨d,.load T<| .tmp t,ty,pos,af,g⟩ (.val τ):=
 bE fun _ _ _ a w _ hs=>by
  obtain⟨b,x,e,hb,hx,_,_⟩:=hs.holds _<|aF h
  have e':a.eval (.tmp t)= .pointer (some ⟨b,0,none⟩):=e;refine⟨x,?_,hx,rfl⟩;simp[execOp,e',Instr.loadAt,Instr.sureAddr,nm hT w b x T' hb<|τ.shape hx]
def cq(h:look Γ t=some (.ptr t' off))(h':look Γ t'=some (.own T' τ))(hp:ba τ off σ)(hT:fM P T σ.n σ.agg=true):bR P Γ ⟨d,.load T<| .tmp t,ty,pos,af,g⟩ (.val σ):=
 bE fun _ _ _ a w _ hs=>by
  obtain⟨b,x,e,hb,hx,_,_⟩:=hs.holds _<|aF h'
  obtain⟨b',e1,e2⟩:=hs.holds _<|aF h
  simp only at e e1;rw[e] at e1;cases e1;have e':a.eval (.tmp t)= .pointer (some ⟨b,off,none⟩):=e2;obtain⟨h1,h2⟩:=hp _ _ hx;refine⟨_,?_,h2,rfl⟩;simp[execOp,e',Instr.loadAt,Instr.sureAddr,kv hT hb h1]
def aK(h:Arg Γ x (Df τ))(hT:fM P T τ.n τ.agg=true):bR P Γ ⟨d,.load T x,ty,pos,af,g⟩ (.val τ):=
 bE fun _ _ _ a w _ hs=>by
  obtain⟨b,off,cs,E,fr,e,hb,hl,hx⟩:=h.ok hs;refine⟨_,?_,hx,rfl⟩;simp[execOp,e,Instr.loadAt,Instr.sureAddr,kv hT (hs.sub _ _ hb) hl]
def vF(P:atp)(T:ato)(k off:Nat):Bool:=
 match P.underlying T with
 |some (.struct fs)=>match fs[k]? with
  |some f=>Nat.beq f.offset off&&(match P.info? f.type with|some i=> !Nat.beq i.size 0|none=>false)
  |none=>false
 |_=>false
def addr_add(b off n:Nat):(⟨b,off,none⟩:Addr).add n=⟨b,off+n,none⟩:=by unfold Addr.add;split<;>simp_all
def xh{k:Nat}(h:vF P T k off=true)(b o:Nat)(w:arG):(Instr.fieldAt T (.pointer<|some ⟨b,o,none⟩) k).run P w= .ok (.pointer<|some ⟨b,o+off,none⟩) w:=by
 unfold vF at h;split at h
 ·rename_i fs hu;split at h
  ·rename_i f hf;simp only[bY] at h;obtain⟨h1,h2⟩:=h;have h1:=fL h1;split at h2
   ·rename_i i hi;have hne:i.size≠0:=by
     intro e;rw[e] at h2;simp at h2
    simp[Instr.fieldAt,aV hu,hf,Instr.sureAddr,fieldPlace,Go.sizeOf,typeInfo,program,Sem.run,hi,hne,addr_add,h1]
   ·cases h2
  ·cases h
 ·cases h
def bM{k:Nat}(h:look Γ t=some (.own T' τ))(hf:vF P T k off=true):bR P Γ ⟨d,.fieldAddr T (.tmp t) k,ty,pos,af,g⟩ (.ptr t off):=
 bE fun _ _ _ a w _ hs=>by
  obtain⟨b,x,e,hb,hx,_,_⟩:=hs.holds _<|aF h
  have e':a.eval (.tmp t)= .pointer (some ⟨b,0,none⟩):=e;exact⟨.pointer<|some ⟨b,0+off,none⟩,by simp[execOp,e',xh hf],⟨b,e,by simp⟩,rfl⟩
def ki{k:Nat}(h:look Γ t=some (.ptr t' o))(hf:vF P T k off=true):bR P Γ ⟨d,.fieldAddr T (.tmp t) k,ty,pos,af,g⟩ (.ptr t'<|o+off):=
 bE fun _ _ _ a w _ hs=>by
  obtain⟨b,e1,e2⟩:=hs.holds _<|aF h
  have e':a.eval (.tmp t)= .pointer (some ⟨b,o,none⟩):=e2;exact⟨.pointer<|some ⟨b,o+off,none⟩,by simp[execOp,e',xh hf],⟨b,e1,rfl⟩,rfl⟩
def abx(hp:ba τ o σ){b:Nat}{E:ato}{fr:Nat×Nat}(hb:H b=some (.cells cs E fr))(hl:off+τ.n<=cs.size)(ha:τ.agg=true)(hx:τ.ok H (Jo τ.agg ((cs.toList.drop off).take τ.n).toArray)):
  (Df σ).ok H (.pointer<|some ⟨b,off+o,none⟩):=by
 rw[ha] at hx;obtain⟨h1,h2⟩:=hp _ _ hx;simp only[sP] at h1 h2;have hlen:(List.take τ.n<|List.drop off cs.toList).toArray.size=τ.n:=by simp;omega
 rw[hlen] at h1;refine⟨b,off+o,cs,E,fr,rfl,hb,by omega,?_⟩;have:List.take σ.n (List.drop o<|List.take τ.n<|List.drop off cs.toList)=List.take σ.n (List.drop (off+o) cs.toList):=by
  rw[uY,tj,iS]
  congr 1
  omega
 simpa[this] using h2
def gY{k:Nat}(h:Arg Γ x (Df τ))(ha:τ.agg=true)(hp:ba τ off σ)(hf:vF P T k off=true):bR P Γ ⟨d,.fieldAddr T x k,ty,pos,af,g⟩ (.val<|Df σ):=
 bE fun _ _ _ a w _ hs=>by
  obtain⟨b,o,cs,E,fr,e,hb,hl,hx⟩:=h.ok hs;exact⟨.pointer<|some ⟨b,o+off,none⟩,by simp[execOp,e,xh hf],abx hp hb hl ha hx,rfl⟩
def Fw(P:atp)(T:ato)(len sz:Nat):Bool:=
 match P.underlying T with
 |some (.array n e)=>Nat.beq n len&&(match P.info? e with|some i=>Nat.beq i.size sz|none=>false)
 |_=>false
def G9(P:atp)(T:ato)(sz:Nat):Bool:=
 match P.underlying T with
 |some (.slice e)=>(match P.info? e with|some i=>Nat.beq i.size sz|none=>false)
 |_=>false
def N8(h:Fw P T len sz=true):∃e i,P.underlying T=some (.array len e)/\P.info? e=some i/\i.size=sz:=by
 unfold Fw at h;split at h
 ·rename_i n e hu;simp only[bY] at h;obtain⟨h1,h2⟩:=h;have h1:=fL h1;subst h1;split at h2
  ·rename_i i hi;exact⟨e,i,hu,hi,fL h2⟩
  ·cases h2
 ·cases h
def QS(h:G9 P T sz=true):∃e i,P.underlying T=some (.slice e)/\P.info? e=some i/\i.size=sz:=by
 unfold G9 at h;split at h
 ·rename_i e hu;split at h
  ·rename_i i hi;exact⟨e,i,hu,hi,fL h⟩
  ·cases h
 ·cases h
def CY(h:Fw P T len sz=true)(b o:Nat)(h0:0<=i)(h1:i<len)(w:arG):
  (Instr.indexAt T (.pointer<|some ⟨b,o,none⟩)<| .int k i).run P w= .ok (.pointer<|some ⟨b,o+i.toNat*sz,none⟩) w:=by
 obtain⟨e,ii,hu,hi,hs⟩:=N8 h;simp[Instr.indexAt,asIntOf,aV hu,Instr.sureAddr,h0,h1,Go.sizeOf,typeInfo,program,Sem.run,hi,hs,addr_add]
def y7(h:G9 P T sz=true)(b o len cap:Nat)(h0:0<=i)(h1:i<len)(w:arG):
  (Instr.indexAt T (.slice (some ⟨b,o,none⟩) len cap)<| .int k i).run P w= .ok (.pointer<|some ⟨b,o+i.toNat*sz,none⟩) w:=by
 obtain⟨e,ii,hu,hi,hs⟩:=QS h;simp[Instr.indexAt,asIntOf,aV hu,h0,h1,Go.sizeOf,typeInfo,program,Sem.run,hi,hs,addr_add]
def Hv(h:look Γ t=some (.own T' τ))(hT:Fw P T len sz=true)(hi:Arg Γ ix (TI k i))(h0:0<=i)(h1:i<len):
  bR P Γ ⟨d,.indexAddr T (.tmp t) ix,ty,pos,af,g⟩ (.ptr t<|i.toNat*sz):=
 bE fun _ _ _ a w _ hs=>by
  obtain⟨b,x,e,hb,hx,_,_⟩:=hs.holds _<|aF h
  have e':a.eval (.tmp t)= .pointer (some ⟨b,0,none⟩):=e;have ei:a.eval ix= .int k i:=hi.ok hs;exact⟨.pointer<|some ⟨b,0+i.toNat*sz,none⟩,by simp[execOp,e',ei,CY hT b 0 h0 h1],⟨b,e,by simp⟩,rfl⟩
def kg(h:look Γ t=some (.ptr t' o))(hT:Fw P T len sz=true)(hi:Arg Γ ix (TI k i))(h0:0<=i)(h1:i<len):
  bR P Γ ⟨d,.indexAddr T (.tmp t) ix,ty,pos,af,g⟩ (.ptr t'<|o+i.toNat*sz):=
 bE fun _ _ _ a w _ hs=>by
  obtain⟨b,e1,e2⟩:=hs.holds _<|aF h
  have e':a.eval (.tmp t)= .pointer (some ⟨b,o,none⟩):=e2;have ei:a.eval ix= .int k i:=hi.ok hs;exact⟨.pointer<|some ⟨b,o+i.toNat*sz,none⟩,by simp[execOp,e',ei,CY hT b o h0 h1],⟨b,e1,rfl⟩,rfl⟩
def GG(sz:Nat)(l:att Ty):Prop:=∀τ∈l,τ.n=sz
def iB{sz:Nat}:∀{l:att Ty},GG sz l->cc l=l.length*sz
 |[],_=>by simp
 |τ::l,h=>by
  have h1:=h τ (by simp);have h2:=iB (l:=l) (fun x hx=>h x (by simp[hx]));simp[h1,h2,pb];omega
def GG.take{sz:Nat}{l:att Ty}(h:GG sz l)(i:Nat):GG sz (l.take i):=fun τ ht=>h τ<|zx ht
def ml{α:Type _}{f:α->Ty}(h:∀x,(f x).n=sz)(l:att α):GG sz (l.map f):=fun τ ht=>by
 obtain⟨x,_,e⟩:=bT.1 ht;exact e▸h x
def TA(h:Arg Γ x (Fj l))(hT:G9 P T sz=true)(hu:GG sz l)(hi:Arg Γ ix (TI k i))(h0:0<=i)(hl:l[i.toNat]? =some σ):
  bR P Γ ⟨d,.indexAddr T x ix,ty,pos,af,g⟩ (.val<|Df σ):=
 bE fun _ _ _ a w _ hs=>by
  obtain⟨ad,cap,e,_,hx⟩:=h.ok hs;have hlt:=(kE.1 hl).1;obtain⟨b,o,cs,E,fr,e1,hb,hsz,ho⟩:=hx (fun e=>by rw[e] at hlt;simp at hlt);subst e1;have ei:a.eval ix= .int k i:=hi.ok hs;have h1:i<l.length:=by omega
  obtain⟨p1,p2⟩:=pz ho hl;have hc:cc (l.take i.toNat)=i.toNat*sz:=by
   rw[iB<|hu.take _,List.length_take,fW (by omega)]
  rw[hc] at p1 p2;have hlen:(List.take (cc l)<|List.drop o cs.toList).length=cc l:=by simp;omega
  rw[hlen] at p1;refine⟨.pointer<|some ⟨b,o+i.toNat*sz,none⟩,by simp[execOp,e,ei,y7 hT b o l.length cap h0 h1],⟨b,_,cs,E,fr,rfl,hb,by omega,?_⟩,rfl⟩;have:List.take σ.n (List.drop (i.toNat*sz)<|List.take (cc l)<|List.drop o cs.toList)=List.take σ.n (List.drop (o+i.toNat*sz) cs.toList):=by
   rw[uY,tj,iS]
   congr 1
   omega
  rw[this] at p2;exact p2
inductive aU(Γ:Ctx):att atq->att Ty->Prop where
 |nil:aU Γ [] []
 |cons {x:atq} {τ:Ty} {xs:att atq} {l:att Ty} (h:Arg Γ x τ) (r:aU Γ xs l):aU Γ (x::xs) (τ::l)
def aU.ok{xs:att atq}{l:att Ty}(h:aU Γ xs l){w0:ar P}{H0:HV}{N:Nat}{a:Act}{w:arG}{H:HV}(hs:Sat w0 H0 N Γ a w H):Ce H l (xs.map a.eval):=by
 induction h with
 |nil=>rfl
 |cons h _ ih=>exact⟨_,_,rfl,h.ok hs,ih⟩
def AV:att Ty->bO
 |[τ]=> .val τ
 |l=> .Vb l
def aiB:Res->bO
 | .vs l=>AV l
 | .fr E sz l=> .buf E sz l
def vT{dU:att Ty}{v:arH}{B:ar P}{a:Act}(h:xi H dU v):(AV dU).holds B a w H v:=by
 match dU,h with
 |[],h=>exact h
 |[_],h=>exact h
 |_::_::_,h=>exact h
def yH{dU:att Ty}:(AV dU).free=true:=by
 match dU with
 |[]=>rfl
 |[_]=>rfl
 |_::_::_=>rfl
def ke{f:FuncId}(h:fR P f=true)(args:awa arH)(w:arG):(callFunc f args).run P w= .ok (.enter f args) w:=by
 unfold fR at h;split at h
 ·rename_i fn hf;simp only[bY,jl] at h;have hb:fn.body.isNone=false:=by cases hx:fn.body<;>simp[hx] at h⊢
  have h1:fn.name≠ "runtime.NumGoroutine" :=by simpa using h.2
  have h2:fn.body≠none:=by intro e;rw[e] at hb;cases hb
  simp[callFunc,program,Sem.run,hf,h1,h2]
 ·cases h
def gZ{f:FuncId}{xs:att atq}{zP:awa ato}{args:att Ty}{dU:Res}(hf:fN P f args dU)(ha:aU Γ xs args):
  bR P Γ ⟨d,.call ⟨.value<| .func f,xs.toArray,zP⟩,ty,pos,af,g⟩ (aiB dU):=by
 intro w0 H0 N a w H hs K Q k;unfold Oper.wp;have e:execOp a.eval ⟨d,.call ⟨.value<| .func f,xs.toArray,zP⟩,ty,pos,af,g⟩=callFunc f (#[]++xs.toArray.map a.eval++ #[]):=rfl;rw[e,ke hf.can,EX];have e2:(#[]++xs.toArray.map a.eval++ #[])=(xs.map a.eval).toArray:=by simp
 rw[e2];refine(hf.run w H _ hs.sub hs.gl<|ha.ok hs).mono ?_;rintro e w' ⟨v,rfl,hb,H',h1,h2,h3⟩;have he:Ext w H w' H':=⟨hb,fun r o h=>by rw[h1 r<|xQ hs.sub h];exact h,h1,h2⟩;cases dU with
 |vs l=>exact k v w' H' he (vT h3)<|fun b e=>absurd e<|bO.free_spec (s:=AV l) yH
 |fr E sz l=>
  obtain⟨xs,k1,k2,k3⟩:=h3;exact k v w' H' he ⟨xs,k1,k2,fun b hb=>⟨(k3 b hb).2,.inl<|df hs.below.size (k3 b hb).1⟩⟩<|fun b e=>(k3 b e).1
def FN{i:TypeInfo}{z:arH}(hi:P.info? T=some i)(hz:i.zero=some z)(w:arG):(zeroValue T).run P w= .ok z w:=by
 simp[zeroValue,typeInfo,program,Sem.run,hi,hz]
structure fj(P:atp)(T:ato)(τ:Ty):Prop where
 run:∀w,∃z,(zeroValue T).run P w= .ok z w/\∀H,τ.ok H z
def dF(z:arH)(h:(P.info? T).bind (·.zero)=some z)(hz:∀H,τ.ok H z):fj P T τ:=⟨fun w=>by
 cases hi:P.info? T with
 |none=>rw[hi] at h;cases h
 |some i=>rw[hi] at h;exact⟨z,FN hi h w,hz⟩⟩
def mT(h:fj P T τ):bR P Γ ⟨d,.alloc T,ty,pos,af,g⟩ (.own T τ):=
 jB fun w0 _ _ a w H hs=>by
  obtain⟨z,hr,hz⟩:=h.run w;refine⟨.pointer<|some ⟨w.heap.size,0,none⟩,w.alloc<| .cells z.cells T,H,?_,Ext.alloc hs.sub _,?_,?_⟩
  ·simp[execOp,Instr.alloc,hr,newVar,newRow]
  ·refine⟨w.heap.size,z,rfl,tF w _,hz H,?_,.inl hs.below.size⟩;cases hh:H w.heap.size with
   |none=>rfl
   |some o=>have:=xQ hs.sub hh;omega
  ·rintro b ⟨ad,e,hb⟩;cases e;simp at hb;omega
def aiO(h:Arg Γ x τ):bR P Γ ⟨d,.box T x,ty,pos,af,g⟩ (.own T τ):=
 jB fun w0 _ _ a w H hs=>by
  refine⟨.pointer<|some ⟨w.heap.size,0,none⟩,w.alloc<| .cells (a.eval x).cells T,H,?_,Ext.alloc hs.sub _,?_,?_⟩
  ·simp[execOp,Instr.box,newVar,newRow]
  ·refine⟨w.heap.size,a.eval x,rfl,tF w _,h.ok hs,?_,.inl hs.below.size⟩;cases hh:H w.heap.size with
   |none=>rfl
   |some o=>have:=xQ hs.sub hh;omega
  ·rintro b ⟨ad,e,hb⟩;cases e;simp at hb;omega
end
section
variable[D:DR]
variable{P:Program}{N:Nat}{ops:Array Oper}{Γ aA:Ctx}{d:Option Tmp}{ty:TypeId}{pos:String}{af:Array Edge}{g:Option (Nat×Bool)}
variable{T:ato}{x:atq}{T':ato}{y:atq}{n:Int}{k:IntKind}{m:Int}{σ:Ty}{t:Nat}{τ:Ty}{w:arG}{off:Nat}{w0:ar P}{H0:HV}{a:Act}{H:HV}{w':arG}{row:av8 Nat}{s:bO}{v:arH}{ρ:Ty}{p:Nat}{Ey:Ty}
def WJ{d:Nat}{Γ:Ctx}{p:Nat×bO}(h:p∈del d Γ):p.1≠d/\d∉p.2.c6:=xw vr p h
def S8(hs:Sat w0 H0 N Γ a w H)(hg:CR w w' row)(yB:∀b,row=some b->w0.nX b/\H b=none/\∀l,w.heap[b]? ≠some (.deferred l))
 (dc:∀p∈aA,p∈Γ/\∀b,p.2.owns w (bh a p.1) b->row≠some b):Sat w0 H0 N aA a w' H:=by
 have mH:∀b,b<w.heap.size->row≠some b->w'.heap[b]? =w.heap[b]? :=fun b hb hn=>hg.block b hb<|fun e=>hn e.symm
 refine Bx (ds:=a.defers) hs (hs.below.Fs hg<|fun k hk=>(yB k hk).1) hg.drawn (fun _ _ _ _=>rfl) hg.size (HV.le.refl _) ?_ ?_ ?_ ?_
 ·intro r o h;rw[mH r (xQ hs.sub h) (fun e=>by have:=(yB r e).2.1;rw[this] at h;cases h)];exact hs.sub r o h
 ·intro _ b hb FX;exact⟨mH b hb (fun e=>by have:=ar.yl (yB b e).1;omega),rfl⟩
 ·intro p hp;exact⟨(dc p hp).1,fun b hb=>⟨mH b (bO.oq (hs.holds p (dc p hp).1) hb).1<|(dc p hp).2 b hb,rfl⟩⟩
 ·exact hs.nd.kept fun D _ h1 h2=>⟨by rw[mH D (lt_of_heap h1)<|fun e=>(yB D e).2.2 _ h1];exact h1,h2⟩
def uD(h:Sat w0 H0 N Γ a w H){d:Nat}(hd:d<N)(hf:pj d Γ=true)(hl:d∉s.c6)
 (hs:s.holds w0 a w H v)(hfr:∀b,s.owns w v b->∀q∈Γ,¬q.2.owns w (bh a q.1) b):Sat w0 H0 N ((d,s)::Γ) (a.put (some d) v) w H:=J2 h hd hf hl hs hfr
def lg{b:Nat}{s':bO}(hs:Sat w0 H0 N Γ a w H)(ht:(t,s)∈Γ)(hg:CR w w' (some b))(hb:w0.nX b)(hob:s.owns w (bh a t) b)
 (ui:s'.holds w0 a w' H (bh a t))(Vg:∀c,s'.owns w' (bh a t) c->s.owns w (bh a t) c\/w.heap.size<=c):Sat w0 H0 N ((t,s')::da t Γ) a w' H:=by
 obtain⟨h1,h2,o,h3,h4⟩:=bO.oq (hs.holds _ ht) hob;have other:∀q∈da t Γ,∀c,s.owns w (bh a t) c-> ¬q.2.owns w (bh a q.1) c:=fun q hq c hc=>hs.sep _ ht q (bG q hq).1 (fun e=>(bG q hq).2 e.symm) c hc
 have rH:Sat w0 H0 N (da t Γ) a w' H:=by
  refine S8 hs hg (fun c hc=>by cases hc;exact⟨hb,h2,fun l e=>by rw[h3] at e;cases e;exact h4⟩)<|fun q hq=>⟨(bG q hq).1,fun c hc e=>?_⟩
  cases e;exact other q hq b hob hc
 have back:∀q∈da t Γ,∀c,q.2.owns w' (bh a q.1) c->q.2.owns w (bh a q.1) c:=fun q hq c hc=>by
  refine((bO.BM (w':=w') (H':=H) (hs.holds q (bG q hq).1) ?_).2 c).1 hc;refine⟨hg.size,hg.os,hg.tape,hg.output,hg.drawn,HV.le.refl _,?_,fun _ _ _=>rfl,rH.sub⟩;intro c hc1 GF;refine hg.block c hc1<|fun e=>?_
  cases e;rcases GF with GF|GF
  ·have:=ar.yl hb;omega
  ·exact other q hq b hob GF
 refine⟨rH.nd,rH.sz,rH.below,rH.Jm,rH.sub,?_,?_,rH.gl⟩
 ·intro q hq;rcases aY.1 hq with eq|hq
  ·subst eq;exact ui
  ·exact rH.holds q hq
 ·have key:∀q∈da t Γ,∀c,s'.owns w' (bh a t) c-> ¬q.2.owns w' (bh a q.1) c:=fun q hq c hc AF=>by
   rcases Vg c hc with h|h
   ·exact other q hq c h<|back q hq c AF
   ·have:=(bO.oq (hs.holds q (bG q hq).1)<|back q hq c AF).1;omega
  intro q hq r hr hne c hc AF;rcases aY.1 hq with eq|hq<;>rcases aY.1 hr with er|hr
  ·subst eq;subst er;exact hne rfl
  ·subst eq;exact key r hr c hc AF
  ·subst er;exact key q hq c AF hc
  ·exact rH.sep q hq r hr hne c hc AF
def ZH(hs:Sat w0 H0 N Γ a w H)(hg:CR w w' row)(yB:∀b,row=some b->w0.nX b/\H b=none)
 {q:Nat×bO}(hq:q∈Γ)(hn:∀b,q.2.owns w (bh a q.1) b->row≠some b)(c:Nat):q.2.owns w' (bh a q.1) c↔q.2.owns w (bh a q.1) c:=by
 refine(bO.BM (w':=w') (H':=H) (hs.holds q hq) ?_).2 c;refine⟨hg.size,hg.os,hg.tape,hg.output,hg.drawn,HV.le.refl _,?_,fun _ _ _=>rfl,?_⟩
 ·intro c hc1 GF;refine hg.block c hc1<|fun e=>?_
  rcases GF with GF|GF
  ·have:=ar.yl (yB c e.symm).1;omega
  ·exact hn c GF e.symm
 ·intro r o h;rw[hg.block r (xQ hs.sub h) (fun e=>by have:=(yB r e.symm).2;rw[this] at h;cases h)];exact hs.sub r o h
def Bw{dd:Nat}{s':bO}(hs:Sat w0 H0 N Γ a w H)(ht:(t,s)∈Γ)(hg:CR w w' row)
 (yB:∀b,row=some b->s.owns w (bh a t) b/\w0.nX b)(vD:dd<N)(hl:dd∉s'.c6)(hv:s'.holds w0 a w' H v)(ho:∀b,s'.owns w' v b->s.owns w (bh a t) b\/w.heap.size<=b):
  Sat w0 H0 N ((dd,s')::del dd (da t Γ)) (a.put (some dd) v) w' H:=by
 have low:∀b,s.owns w (bh a t) b->b<w.heap.size/\H b=none/\∃o,w.heap[b]? =some o/\MY o:=fun b h=>bO.oq (hs.holds _ ht) h
 have sub:∀q∈del dd (da t Γ),q∈Γ/\∀b,s.owns w (bh a t) b-> ¬q.2.owns w (bh a q.1) b:=fun q hq=>by
  have h1:=bG q<|rF q hq
  exact⟨h1.1,fun b hb=>hs.sep _ ht q h1.1 (fun e=>h1.2 e.symm) b hb⟩
 have ahH:∀b,row=some b->w0.nX b/\H b=none:=fun b h=>⟨(yB b h).2,(low b (yB b h).1).2.1⟩
 have hn:∀q∈del dd (da t Γ),∀b,q.2.owns w (bh a q.1) b->row≠some b:=fun q hq b hb e=>(sub q hq).2 b (yB b e).1 hb
 have rH:Sat w0 H0 N (del dd<|da t Γ) a w' H:=by
  refine S8 hs hg (fun b h=>⟨(yB b h).2,(ahH b h).2,fun l e=>?_⟩)<|fun q hq=>⟨(sub q hq).1,hn q hq⟩
  obtain⟨_,_,o,h3,h4⟩:=low b (yB b h).1;rw[h3] at e;cases e;exact h4
 refine uD rH vD vr hl hv fun b hb q hq Uh=>?_
 have Uh:=(ZH hs hg ahH (sub q hq).1 (hn q hq) b).1 Uh;rcases ho b hb with h|h
 ·exact(sub q hq).2 b h Uh
 ·have:=(bO.oq (hs.holds q (sub q hq).1) Uh).1;omega
def Gr(w:arG):CR w w none:=⟨⟨rfl,rfl,rfl,bp _,fun _ _ _=>rfl⟩,bp _⟩
def iX(τ:Ty)(off:Nat)(σ Ey:Ty):Prop:=∀(H:HV) (v x:arH),τ.ok H v->σ.ok H x->off+σ.n<=v.cells.size/\
 ∃x',Ey.ok H x'/\x'.cells=(v.cells.toList.take off++x.cells.toList++v.cells.toList.drop (off+σ.n)).toArray
def iX.whole(h:σ.n=τ.n):iX τ 0 σ σ:=fun H v x hv hx=>by
 have h1:=(τ.shape hv).size;refine⟨by omega,x,hx,?_⟩;rw[xJ (by simp;omega)];simp
def iX.agg{l:att Ty}{i off:Nat}{σ ρ:Ty}(h:l[i]? =some ρ)(hn:σ.n=ρ.n)(ho:cc (l.take i)=off):iX (ko l) off σ (ko<|l.set i σ):=by
 rintro H v x ⟨cs,e,ok⟩ hx;subst e;subst ho;obtain⟨p1,_⟩:=pz ok h;have hp:=Ch ok h hn hx;rw[<-hn] at p1 hp;simp only[gF] at p1;exact⟨p1,.agg _,⟨_,rfl,by simpa[Value.cells] using hp⟩,rfl⟩
def DD{n:Nat}(h:Shape n false v):v.oneCell'=true/\n=1/\v.cells= #[v]:=by
 have h1:=h.size;have h2:=h.cell;have h3:=h.eq;cases v with
 |agg c=>
  exfalso;simp only[Value.cells,Jo] at h2 h3;by_cases hc:0<c.size
  ·simp[hc] at h3;have:=h2 c[0] (by simp);rw[<-h3] at this;simp[Value.oneCell'] at this
  ·simp[CA,Ii<|Nat.le_of_not_lt hc,undef] at h3
 |tuple c=>have:=h2 (.tuple c) (by simp[Value.cells]);simp[Value.oneCell'] at this
 |_=>exact⟨rfl,by simpa[Value.cells] using h1.symm,rfl⟩
def S4{n:Nat}{agg:Bool}{S7:att arH}(h:Shape n agg (Jo agg S7.toArray))(hl:S7.length=n):(Jo agg S7.toArray).cells=S7.toArray:=by
 cases agg
 ·obtain⟨_,h2,h3⟩:=DD h
  match S7,hl.trans h2 with
  |[y],_=>simpa[Jo] using h3
 ·rfl
def iX.trans{l:att Ty}{i o1 o2:Nat}{ρ':Ty}(h:l[i]? =some ρ)(ho:cc (l.take i)=o1)(k:iX ρ o2 σ ρ')(hn:ρ'.n=ρ.n)(e:o1+o2=off):iX (ko l) off σ (ko<|l.set i ρ'):=by
 rintro H v x ⟨cs,e',ok⟩ hx;subst e';subst ho;subst e;obtain⟨p1,p2⟩:=pz ok h;have hlen:cs.toList.length=cs.size:=by simp
 rw[hlen] at p1
 generalize Gl:(List.take ρ.n<|List.drop (cc<|List.take i l) cs.toList)=S7 at p2
 have X4:S7.length=ρ.n:=by rw[<-Gl];simp;omega
 have ajx:=S4 (ρ.shape p2) X4;obtain⟨k1,x',k2,k3⟩:=k H _ x p2 hx;rw[ajx] at k1 k3;simp only[E0,X4] at k1;refine⟨by simp only[Value.cells];omega,.agg _,⟨_,rfl,?_⟩,rfl⟩;have hp:=Ch ok h hn k2;rw[k3] at hp;have e1:List.take (cc<|List.take i l) cs.toList++(List.take o2 S7++x.cells.toList++List.drop (o2+σ.n) S7)++List.drop (cc (List.take i l)+ρ.n) cs.toList=
   List.take (cc (List.take i l)+o2) cs.toList++x.cells.toList++List.drop (cc (List.take i l)+o2+σ.n) cs.toList:=by
  have t1:List.take (cc (List.take i l)+o2) cs.toList=List.take (cc<|List.take i l) cs.toList++List.take o2 S7:=by
   rw[List.take_add,<-Gl,tj,fW (by omega)]
  have t2:List.drop (cc (List.take i l)+o2+σ.n) cs.toList=List.drop (o2+σ.n) S7++List.drop (cc (List.take i l)+ρ.n) cs.toList:=by
   rw[<-Gl,uY,iS];have:List.drop (cc (List.take i l)+ρ.n) cs.toList=List.drop (ρ.n-(o2+σ.n)) (List.drop (cc (List.take i l)+(o2+σ.n)) cs.toList):=by
    rw[iS];congr 1;omega
   rw[this,zz]
   congr 1;omega
  rw[t1,t2];simp[nR]
 rw[List.toList_toArray] at hp;rw[e1] at hp;exact hp
def lP{n:Nat}{b:Nat}{cs:awa arH}{E:ato}{x:arH}(hT:(P.info? T).map (·.size)=some n)(hn:x.cells.size=n)(hb:w.heap[b]? =some (.cells cs E (0,0)))(hl:off+n<=cs.size)(h1:∀c∈x.cells.toList,c.oneCell'=true):
  (storeVar T ⟨b,off,none⟩ x).run P w= .ok () (w.setRow b (cs.toList.take off++x.cells.toList++cs.toList.drop (off+n)).toArray):=by
 cases hi:P.info? T with
 |none=>rw[hi] at hT;cases hT
 |some i=>
  rw[hi] at hT;simp at hT;have C6:=run_storeCells_at P b off E x.cells.toList 0 cs w hb (by simp;omega) h1;simp only[Al,gF,hn] at C6;simp[storeVar,Go.sizeOf,typeInfo,program,Sem.run,hi,hT,hn,C6]
def BL{n:Nat}{agg:Bool}(h:fM P T n agg=true):(P.info? T).map (·.size)=some n:=by
 unfold fM at h;split at h
 ·rename_i i dd hi hu;simp only[bY] at h;rw[hi];simp[fL h.1.1]
 ·cases h
def Pn{eI:Ctx}(dc:∀q∈eI,q∈Γ)(hp:look eI p=some (.ptr t off))(ht:look eI t=some (.own T' τ))(hx:Arg eI x σ)(hs:iX τ off σ Ey)(hT:fM P T σ.n σ.agg=true):
  Step P N ops ⟨none,.store T (.tmp p) x,ty,pos,af,none⟩ Γ ((t,.own T' Ey)::da t Γ):=by
 intro w0 H0 a w H dh K Q k;simp only[Region.wanted,if_true];obtain⟨b,v,e,hb,hv,hH,hB⟩:=dh.holds _ (dc _<|aF ht);obtain⟨b',e1,e2⟩:=dh.holds _ (dc _<|aF hp);simp only at e e1;rw[e] at e1;cases e1;have ep:a.eval (.tmp p)= .pointer (some ⟨b,off,none⟩):=e2;have Nt:=hx.ok<|dh.weaken dc
 have pt:=σ.shape Nt;obtain⟨h1,x',h2,h3⟩:=hs H v _ hv Nt;have sO:=lP (P:=P) (BL hT) pt.size hb h1 pt.cell;rw[<-h3] at sO;unfold Oper.wp;have er:(execOp a.eval ⟨none,.store T (.tmp p) x,ty,pos,af,none⟩).run P w= .ok .skip (w.setRow b x'.cells):=by
  simp[execOp,ep,Instr.storeAt,Instr.sureAddr,sO]
 rw[er,Ao];have hg:CR w (w.setRow b x'.cells) (some b):=CR.setRow w b _;refine k a _ H<|lg dh (dc _<|aF ht) hg hB ⟨_,e,rfl⟩ ⟨b,x',e,EL w b _ _ _ _ hb,h2,hH,hB⟩ fun c hc=>?_
 obtain⟨ad,e',hc⟩:=hc;simp only[e] at e';cases e';exact .inl ⟨_,e,hc⟩
def SU(hp:look Γ p=some (.ptr t off))(ht:look Γ t=some (.own T' τ))(hx:Arg Γ x σ)(hs:iX τ off σ Ey)(hT:fM P T σ.n σ.agg=true):
  Step P N ops ⟨none,.store T (.tmp p) x,ty,pos,af,none⟩ Γ ((t,.own T' Ey)::da t Γ):=Pn (fun _ h=>h) hp ht hx hs hT
def Ja(hp:look Γ p=some (.ptr t off))(ht:look Γ t=some (.own T' τ))(hx:Arg Γ x σ)(hs:iX τ off σ Ey)(hT:fM P T σ.n σ.agg=true):
  O9 P N ops Γ ⟨none,.store T (.tmp p) x,ty,pos,af,none⟩ t (.own T' Ey):=fun _ dc=>Pn dc hp ht hx hs hT
def FI{eI:Ctx}(dc:∀q∈eI,q∈Γ)(ht:look eI t=some (.own T' τ))(hx:Arg eI x σ)(hn:σ.n=τ.n)(hT:fM P T σ.n σ.agg=true):
  Step P N ops ⟨none,.store T (.tmp t) x,ty,pos,af,none⟩ Γ ((t,.own T' σ)::da t Γ):=by
 intro w0 H0 a w H dh K Q k;simp only[Region.wanted,if_true];obtain⟨b,v,e,hb,hv,hH,hB⟩:=dh.holds _ (dc _<|aF ht);have ep:a.eval (.tmp t)= .pointer (some ⟨b,0,none⟩):=e;have Nt:=hx.ok<|dh.weaken dc
 have pt:=σ.shape Nt;obtain⟨h1,x',h2,h3⟩:=iX.whole hn H v _ hv Nt;have sO:=lP (P:=P) (BL hT) pt.size hb h1 pt.cell;rw[<-h3] at sO;unfold Oper.wp;have er:(execOp a.eval ⟨none,.store T (.tmp t) x,ty,pos,af,none⟩).run P w= .ok .skip (w.setRow b x'.cells):=by
  simp[execOp,ep,Instr.storeAt,Instr.sureAddr,sO]
 rw[er,Ao];have hg:CR w (w.setRow b x'.cells) (some b):=CR.setRow w b _;refine k a _ H<|lg dh (dc _<|aF ht) hg hB ⟨_,e,rfl⟩ ⟨b,x',e,EL w b _ _ _ _ hb,h2,hH,hB⟩ fun c hc=>?_
 obtain⟨ad,e',hc⟩:=hc;simp only[e] at e';cases e';exact .inl ⟨_,e,hc⟩
def QN(ht:look Γ t=some (.own T' τ))(hx:Arg Γ x σ)(hn:σ.n=τ.n)(hT:fM P T σ.n σ.agg=true):
  Step P N ops ⟨none,.store T (.tmp t) x,ty,pos,af,none⟩ Γ ((t,.own T' σ)::da t Γ):=FI (fun _ h=>h) ht hx hn hT
def OI(ht:look Γ t=some (.own T' τ))(hx:Arg Γ x σ)(hn:σ.n=τ.n)(hT:fM P T σ.n σ.agg=true):
  O9 P N ops Γ ⟨none,.store T (.tmp t) x,ty,pos,af,none⟩ t (.own T' σ):=fun _ dc=>FI dc ht hx hn hT
def mD{op:BinOp}(hx:Arg Γ x σ)(hy:Arg Γ y τ)
 (h:∀H u v,σ.ok H u->τ.ok H v->∀w:arG,(∀r o,H r=some o->w.heap[r]? =some o)->∃z,(do eqGuard op T x y u v;binOp op T u v:Sem arH).run P w= .ok z w/\ρ.ok H z):bR P Γ ⟨d,.binOp op T x y T',ty,pos,af,g⟩ (.val ρ):=
 bE fun _ _ _ a w H hs=>by
  obtain⟨z,h1,h2⟩:=h H _ _ (hx.ok hs) (hy.ok hs) w hs.sub;refine⟨z,?_,h2,rfl⟩;have e:execOp a.eval ⟨d,.binOp op T x y T',ty,pos,af,g⟩=(do let z<-(do eqGuard op T x y (a.eval x) (a.eval y);binOp op T (a.eval x) (a.eval y):Sem arH);pure (.value z)):=rfl;rw[e,fE,h1]
  rfl
def vV(hx:Arg Γ x (TI k m))(hy:Arg Γ y (TI k n)):bR P Γ ⟨d,.binOp .add T x y T',ty,pos,af,g⟩ (.val<|TI k<|k.wrap<|m+n):=
 mD hx hy fun H u v hu hv w _=>by
  cases hu;cases hv;exact⟨_,by simp[eqGuard,binOp,Op.intArith],rfl⟩
def AY(hx:Arg Γ x (TI k m))(hy:Arg Γ y (TI k n)):bR P Γ ⟨d,.binOp .sub T x y T',ty,pos,af,g⟩ (.val<|TI k<|k.wrap<|m-n):=
 mD hx hy fun H u v hu hv w _=>by
  cases hu;cases hv;exact⟨_,by simp[eqGuard,binOp,Op.intArith],rfl⟩
def xE(hx:Arg Γ x (TI k m))(hy:Arg Γ y (TI k n)):bR P Γ ⟨d,.binOp .mul T x y T',ty,pos,af,g⟩ (.val<|TI k<|k.wrap<|m*n):=
 mD hx hy fun H u v hu hv w _=>by
  cases hu;cases hv;exact⟨_,by simp[eqGuard,binOp,Op.intArith],rfl⟩
def abM(hx:Arg Γ x (TI k m))(hy:Arg Γ y (TI k n))(h:n≠0):bR P Γ ⟨d,.binOp .quo T x y T',ty,pos,af,g⟩ (.val<|TI k<|k.wrap<|m.tdiv n):=
 mD hx hy fun H u v hu hv w _=>by
  cases hu;cases hv;exact⟨_,by simp[eqGuard,binOp,Op.intDiv,h],rfl⟩
def aiG(hx:Arg Γ x (TI k m))(hy:Arg Γ y (TI k n))(h:n≠0):bR P Γ ⟨d,.binOp .rem T x y T',ty,pos,af,g⟩ (.val<|TI k<|m.tmod n):=
 mD hx hy fun H u v hu hv w _=>by
  cases hu;cases hv;exact⟨_,by simp[eqGuard,binOp,Op.intDiv,h],rfl⟩
def dJ(hx:Arg Γ x (TI k m))(hy:Arg Γ y (TI k n)):bR P Γ ⟨d,.binOp .lss T x y T',ty,pos,af,g⟩ (.val<|bj<|decide<|m<n):=
 mD hx hy fun H u v hu hv w _=>by
  cases hu;cases hv;exact⟨_,by simp[eqGuard,binOp,Op.intCmp],rfl⟩
def Ge(hx:Arg Γ x (TI k m))(hy:Arg Γ y (TI k n)):bR P Γ ⟨d,.binOp .leq T x y T',ty,pos,af,g⟩ (.val<|bj<|decide<|m<=n):=
 mD hx hy fun H u v hu hv w _=>by
  cases hu;cases hv;exact⟨_,by simp[eqGuard,binOp,Op.intCmp],rfl⟩
def b9(hx:Arg Γ x (TI k m))(hy:Arg Γ y (TI k n)):bR P Γ ⟨d,.binOp .gtr T x y T',ty,pos,af,g⟩ (.val<|bj<|decide<|n<m):=
 mD hx hy fun H u v hu hv w _=>by
  cases hu;cases hv;exact⟨_,by simp[eqGuard,binOp,Op.intCmp],rfl⟩
def nD(hx:Arg Γ x (TI k m))(hy:Arg Γ y (TI k n)):bR P Γ ⟨d,.binOp .geq T x y T',ty,pos,af,g⟩ (.val<|bj<|decide<|n<=m):=
 mD hx hy fun H u v hu hv w _=>by
  cases hu;cases hv;exact⟨_,by simp[eqGuard,binOp,Op.intCmp],rfl⟩
def cw(hx:Arg Γ x (TI k m))(hy:Arg Γ y (TI k n)):bR P Γ ⟨d,.binOp .eql T x y T',ty,pos,af,g⟩ (.val<|bj<|decide<|m=n):=
 mD hx hy fun H u v hu hv w _=>by
  cases hu;cases hv;refine⟨.bool<|m==n,by simp[eqGuard,binOp,Op.intCmp],?_⟩;show _=_
  congr 1
def dH(hx:Arg Γ x (TI k m))(hy:Arg Γ y (TI k n)):bR P Γ ⟨d,.binOp .neq T x y T',ty,pos,af,g⟩ (.val<|bj<| !decide (m=n)):=
 mD hx hy fun H u v hu hv w _=>by
  cases hu;cases hv;refine⟨.bool<|m !=n,by simp[eqGuard,binOp,Op.intCmp],?_⟩;show _=_
  congr 1
def aiM{m n:ByteArray}(hx:Arg Γ x (U7 m))(hy:Arg Γ y (U7 n)):bR P Γ ⟨d,.binOp .eql T x y T',ty,pos,af,g⟩ (.val<|bj<|m.toList==n.toList):=
 mD hx hy fun H u v hu hv w _=>by
  cases hu;cases hv;exact⟨_,by simp[eqGuard,binOp,Op.stringOp],rfl⟩
def aiH{m n:ByteArray}(hx:Arg Γ x (U7 m))(hy:Arg Γ y (U7 n)):bR P Γ ⟨d,.binOp .neq T x y T',ty,pos,af,g⟩ (.val<|bj<| !(m.toList==n.toList)):=
 mD hx hy fun H u v hu hv w _=>by
  cases hu;cases hv;exact⟨_,by simp[eqGuard,binOp,Op.stringOp],rfl⟩
def Qi(P:atp)(T:ato):Bool:=match P.underlying T with|some .bool=>true|_=>false
def aiN{m n:Bool}(hT:Qi P T=true)(hx:Arg Γ x (bj m))(hy:Arg Γ y (bj n)):bR P Γ ⟨d,.binOp .eql T x y T',ty,pos,af,g⟩ (.val<|bj<|m==n):=
 mD hx hy fun H u v hu hv w _=>by
  cases hu;cases hv;have hu:P.underlying T=some .bool:=by
   unfold Qi at hT;split at hT
   ·assumption
   ·cases hT
  refine⟨.bool<|m==n,?_,rfl⟩;have e:(Op.equal T (.bool m)<| .bool n).run P w= .ok (m==n) w:=run_equalIn_bool w 9999 T m n hu;simp[eqGuard,binOp,e]
def fT{b:Bool}(hx:Arg Γ x (bj b)):bR P Γ ⟨d,.unOp .not T x,ty,pos,af,g⟩ (.val<|bj<| !b):=
 bE fun _ _ _ a w H hs=>by
  have e:a.eval x= .bool b:=hx.ok hs;exact⟨_,by simp[execOp,e,Op.unary],rfl,rfl⟩
def abN(hx:Arg Γ x (TI k n)):bR P Γ ⟨d,.unOp .neg T x,ty,pos,af,g⟩ (.val<|TI k<|k.wrap<|0-n):=
 bE fun _ _ _ a w H hs=>by
  have e:a.eval x= .int k n:=hx.ok hs;exact⟨_,by simp[execOp,e,Op.unary,Op.intArith],rfl,rfl⟩
def Bh(n:Int):Prop:= -9223372036854775808<=n/\n<=9223372036854775807
def wrap_i64(h:Bh n):IntKind.i64.wrap n=n:=by
 exact IntWalk.i64_in n h
def U64(n:Int):Prop:=0<=n/\n<18446744073709551616
def wrap_u64(h:U64 n):IntKind.u64.wrap n=n:=by
 unfold U64 at h;exact IntWalk.u64_in n (by omega)
def afC(hx:Arg Γ x (TI .i64 m))(hy:Arg Γ y (TI .i64 n))(h:Bh (m+n)):bR P Γ ⟨d,.binOp .add T x y T',ty,pos,af,g⟩ (.val<|TI .i64<|m+n):=by
 have:=vV (P:=P) (d:=d) (ty:=ty) (pos:=pos) (af:=af) (g:=g) (T:=T) (T':=T') hx hy;rwa [wrap_i64 h] at this
end
end Trn
