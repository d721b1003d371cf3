/-
  Part of the proof of SolidForms.
-/
import Derived.WalkKit
import Derived.Orders
import Derived.RangeFuncIn
import Derived.RangeFuncRecord
import Derived.RangeFuncLeaves
import Derived.RangeFuncSeq
import Derived.Scope
import Derived.Shelf.Strings.Builder1
set_option maxRecDepth 100000
set_option maxHeartbeats 20000000
set_option linter.all false
open Go Go.RowKit Go.Proofs
namespace Trn
def AZ:= @of_decide_eq_true
def Ab:= @decide_eq_true
def Ay:= @of_decide_eq_false
def Ag:= @List.mem_cons
def Bi:= @List.mem_cons_of_mem
def CC:= @Classical.byContradiction
def BH:= @decide_eq_false
def Be:= @List.mem_singleton
def BU:= @Bool.and_eq_true
def CB:= @List.take_of_length_le
def BR:= @List.mem_append
def Az:= @Nat.le_refl
def BI:= @List.mem_map
def CA:= @Int.toNat_natCast
def B8:= @cond_false
def Bw:= @List.length_map
def ET:= @Int.mul_le_mul_of_nonneg_left
def BZ:= @Int.mul_add
def EC:= @List.getElem?_eq_some_iff
def ES:= @List.length_append
def Dj:= @Nat.eq_of_beq_eq_true
def BM:= @cond_true
def Eo:= @List.getD_eq_getElem?_getD
def ER:= @Int.eq_ofNat_of_zero_le
def Cy:= @List.all_eq_true
def DI:= @List.length_take
def DF:= @List.length_cons
def DP:= @Go.Result.andThen_ok
def EP:= @Nat.le_of_ble_eq_true
def Dm:= @List.mem_cons_self
def EB:= @Array.length_toList
def CX:= @Nat.le_trans
def Fe:= @List.getElem?_eq_getElem
def DD:= @Rat.mul_nonneg
def Dg:= @Option.some.inj
def D8:= @Int.mul_comm
def Dt:= @Nat.min_eq_left
def DO:= @Int.mul_assoc
def Ev:= @decide_eq_true_iff
def LN:= @List.length_singleton
def F6:= @Bool.not_eq_true'
def F5:= @Int.mul_left_comm
def G3:= @List.mem_append_left
def Df:= @Go.Sem.run_bind
def Fc:= @Int.natAbs_natCast
def HB:= @decide_eq_false_iff_not
def JS:= @List.eq_nil_of_length_eq_zero
def Ds:= @Int.le_of_lt
def Gx:= @Nat.ble_eq_true_of_le
def IQ:= @List.getElem?_append_left
def JR:= @Int.sign_eq_neg_one_of_neg
def F4:= @List.drop_drop
def GX:= @List.getElem?_map
def Hg:= @Nat.mul_le_mul_right
def M8:= @Int.mul_le_mul_of_nonneg_right
def J0:= @Int.sign_eq_one_of_pos
def GW:= @decide_eq_decide
def Gw:= @List.append_assoc
def F3:= @Rat.le_of_lt
def LM:= @List.getElem?_append_right
def GV:= @Rat.mul_eq_zero
def H9:= @List.length_drop
def F2:= @Nat.zero_le
def G2:= @Int.one_mul
def FM:= @Rat.le_refl
def Gv:= @Nat.mul_le_mul
def Hf:= @List.mem_filter
def Km:= @List.mem_of_getElem?
def Kl:= @Nat.pow_le_pow_right
def Kk:= @List.pairwise_append
def I4:= @List.nil_append
def G1:= @Rat.mul_pos
def K0:= @Nat.lt_of_lt_of_le
def LL:= @Bool.or_eq_false_iff
def Gh:= @Nat.lt_or_ge
def Kj:= @Int.emod_lt_of_pos
def Ki:= @List.pairwise_cons
def MZ:= @List.drop_of_length_le
def M7:= @Int.ofNat_eq_natCast
def Gg:= @Int.add_mul
def MY:= @Array.getElem?_toList
def Kh:= @Int.lt_trichotomy
def JQ:= @List.append_nil
def JP:= @List.length_set
def LK:= @Nat.eq_zero_or_pos
def PI:= @Array.getElem?_eq_some_iff
def Kg:= @List.getElem_mem
def NJ:= @List.length_replicate
def He:= @Int.mul_sub
def Kf:= @Bool.or_eq_true
def Ke:= @Int.ediv_nonneg
def Jz:= @Go.run_underlying
def JO:= @Bool.true_and
def OC:= @List.take_append_drop
def OB:= @Int.emod_add_mul_ediv
def LJ:= @List.map_append
def LI:= @Int.emod_nonneg
def Kd:= @Int.mul_nonneg
def Kc:= @Int.natAbs_mul
def OA:= @List.mem_of_mem_take
def JN:= @Go.Sem.run_pure
def JM:= @getElem!_pos
def NC:= @Rat.div_mul_cancel
def PA:= @List.mem_append_right
def LF:= @Go.heap_alloc_new
def M1:= @Int.natCast_mul
def M0:= @Rat.num_eq_zero
def Iv:= @Nat.add_mul
def KY:= @Nat.add_assoc
def Jw:= @Nat.mul_comm
def Rq:= @List.drop_eq_getElem_cons
def Lz:= @List.drop_take
def LD:= @List.map_cons
def LC:= @Prod.mk.injEq
def NB:= @List.mem_flatMap
def P9:= @Prod.ext_iff
def Tb:= @Array.getD_eq_getD_getElem?
def Nz:= @decide_eq_true_eq
def Jv:= @Int.mul_one
def Ny:= @Rat.divInt_eq_div
def Nx:= @List.pairwise_map
def QC:= @List.mem_of_mem_drop
def P8:= @List.getElem?_drop
def Nw:= @List.drop_append
def Rp:= @List.getElem?_set_self
def Nv:= @List.nil_sublist
def QB:= @beq_eq_false_iff_ne
def P7:= @List.flatMap_cons
def Ro:= @List.contains_iff_mem
def NA:= @List.take_take
def Nu:= @Go.Oper.upon_value
def QA:= @List.getElem?_take
def Ta:= @List.pairwise_singleton
def N9:= @List.all_cons
def Ly:= @Nat.one_mul
def Lx:= @Nat.pow_add
def LB:= @bne_iff_ne
def P6:= @Option.map_some
def Vf:= @Array.getElem?_eq_getElem
def Yw:= @Rat.mul_le_mul_of_nonneg_right
def TZ:= @Array.getElem?_modify
def TY:= @List.length_filter_le
def Q9:= @List.cons_append
def Rn:= @List.filter_append
def Ve:= @List.Pairwise.imp_of_mem
def P5:= @List.mem_range
def P4:= @List.drop_zero
def P3:= @Int.mul_le_mul
def Rm:= @List.Sublist.refl
def Rl:= @List.nodup_append
def Nt:= @Nat.zero_add
def Rk:= @Int.sub_mul
def Yv:= @Int.fdiv_eq_ediv_of_nonneg
def Rj:= @Nat.mod_eq_of_lt
def Ri:= @List.drop_length
def Rh:= @Int.ediv_le_self
def Rg:= @List.isEmpty_iff
def gF:= @List.pairwise_iff_forall_sublist
def TX:= @Bool.false_eq_true
def Q8:= @Go.Oper.upon_skip
def Vd:= @List.getElem?_eq_none
def Q7:= @Bool.false_and
def Yu:= @List.pairwise_iff_getElem
def Yt:= @List.sublist_append_right
def N8:= @Nat.mod_lt
def P2:= @Nat.add_comm
def Vc:= @List.getElem?_set_ne
def TW:= @Int.emod_eq_of_lt
def Yr:= @Go.World.putObj_heap_other
def Yq:= @List.sublist_append_iff
def Vb:= @List.length_pos_iff
def Va:= @Nat.mul_le_mul_left
def TV:= @Nat.le_add_right
def Yp:= @Array.getElem?_eq_none
def P1:= @Nat.le_succ
def P0:= @Rat.div_def
def Yo:= @List.singleton_sublist
def VZ:= @Bool.not_eq_false'
def fz:= @Int.gcd_pos_of_ne_zero_left
def yG:= @List.singleton_append
def TU:= @List.length_nil
def Yn:= @Int.ediv_lt_of_lt_mul
def Ym:= @List.mem_iff_getElem?
def ft:= @Array.toList_setIfInBounds
def Rf:= @Bool.false_or
def VY:= @List.any_eq_false
def VX:= @List.size_toArray
def VW:= @List.ext_getElem?
def fp:= @Int.lt_of_mul_lt_mul_left
def Q6:= @Nat.log2_lt
def VV:= @List.not_mem_nil
def VU:= @List.any_eq_true
def Re:= @Nat.add_zero
def Rc:= @Nat.succ_mul
def Rb:= @Nat.gcd_comm
def Ra:= @Int.mul_zero
def RZ:= @Nat.pow_succ
def Yl:= @List.take_replicate
def Q5:= @beq_iff_eq
def VT:= @Go.Oper.upon_enter
def VS:= @Array.size_ofFn
def VR:= @Nat.two_pow_pos
def VQ:= @Rat.num_intCast
def VP:= @Int.mul_ne_zero
def VO:= @List.any_append
def RY:= @Rat.inv_pos
def fk:= @List.length_eq_one_iff
def VN:= @List.drop_left
def fj:= @Array.getElem?_append
def TT:= @List.map_set
def TR:= @List.map_map
def VM:= @Int.natAbs_neg
def VK:= @Rat.mkRat_self
def TQ:= @Rat.le_trans
def Yk:= @List.take_append
def Yj:= @Option.getD_some
def Yi:= @Go.Lib.cell_of_heap
def Yh:= @List.filter_cons
def fi:= @BitVec.ofInt_natCast
def Yg:= @List.append_inj'
def oO:= @List.map_take
def TP:= @Go.setRow_heap
def fh:= @List.take_succ_cons
def fg:= @List.drop_set_of_lt
def Yf:= @List.cons.injEq
def oN:= @List.getElem?_zip_eq_some
def Ye:= @Rat.den_intCast
def Yc:= @Bool.decide_and
def Yb:= @Bool.eq_iff_iff
def VJ:= @Bool.true_or
def VI:= @Nat.le_of_lt
def fe:= @List.map_replicate
def VH:= @Int.add_zero
def fZ:= @BitVec.toNat_ofNat
def fY:= @Int.mul_right_comm
def fX:= @Rat.mul_inv_cancel
def Ya:= @Bool.and_false
def YZ:= @Rat.num_divInt
def YY:= @Rat.den_divInt
def fW:= @Nat.gcd_zero_left
def oL:= @Go.World.putObj_heap_same
def fU:= @Bool.not_eq_true
def YX:= @List.map_nil
def fT:= @List.foldl_cons
def oK:= @List.contains_eq_mem
def YW:= @Int.zero_mul
def fS:= @List.all_append
def fR:= @UInt8.toNat_inj
def YV:= @or_and_right
def fQ:= @Rat.intCast_inj
def fP:= @List.take_left
def fO:= @List.take_succ
def fM:= @Bool.not_false
def YU:= @Rat.neg_num
def YT:= @Rat.neg_den
def VG:= @Go.wpIn_mono
def oJ:= @Nat.lt_of_le_of_lt
def oI:= @Rat.sub_eq_add_neg
def fL:= @Bool.or_false
def fI:= @Bool.and_true
def YS:= @Rat.not_lt
def fH:= @Nat.zero_mul
def fG:= @Rat.le_total
def A4{α:Sort _}{a b:α}(h:a=b:=by kernel_rfl):a=b:=h
abbrev A3:=List
abbrev A6:=Option
abbrev AK:=World
abbrev AO:=Value
abbrev Bu:=Operand
abbrev Af:=TypeId
abbrev Bs:=Program
abbrev Aw:=Array
abbrev HV:=Nat->A6 Obj
class DR where
 on:Bool
def DR.m[D:DR](w:AK):Nat:=cond D.on w.drawn 0
abbrev DR.strict:DR:=⟨true⟩
instance DR.lax:DR:=⟨false⟩
abbrev GQ[D:DR](w w':AK):Prop:=DR.m w<=DR.m w'
def GQ.of[D:DR]{w w':AK}(h:w.drawn<=w'.drawn):GQ w w':=by
 unfold GQ DR.m;cases D.on
 ·exact Az _
 ·exact h
class aaQ[D:DR]:Prop where
 off:D.on=false
instance: @aaQ DR.lax:= @aaQ.mk DR.lax rfl
def HV.le(H H':HV):Prop:=∀r o,H r=some o->H' r=some o
def HV.le.refl(H:HV):HV.le H H:=λ_ _ h=>h
def HV.le.trans{A B C:HV}(h:HV.le A B)(k:HV.le B C):HV.le A C:=λr o x=>k r o<|h r o x
def c7:Aw AO:=((List.range 20).map λi=>Value.int .u64<|10^i).toArray
def S2(P:Bs)(T:Af)(o:A6 Obj):Prop:=match P.underlying T with
 |some (.int k)=>∃m E fr,o=some (.cells #[.int k m] E fr)
 |some (.array 20 _)=>∃E fr,o=some (.cells c7 E fr)
 |_=>True
def Kp(P:Bs)(H:HV):Prop:=∀g T,(P.globals[g]?).map (·.type)=some T->S2 P T (H g)
def Kp.mono{P:Bs}{H H':HV}(h:HV.le H H')(k:Kp P H):Kp P H':=λg T e=>by
 have:=k g T e;unfold S2 at this⊢;split
 ·rename_i hu;rw[hu] at this;obtain⟨m,E,fr,e⟩:=this;exact⟨m,E,fr,h _ _ e⟩
 ·rename_i hu;rw[hu] at this;obtain⟨E,fr,e⟩:=this;exact⟨E,fr,h _ _ e⟩
 ·trivial
structure AX(P:Bs) where
 w:AK
 X:Nat->Prop
 rd:A6 Nat
 IF:Bool
 ds:A3 Deferred
 lo:Nat
 aag:lo<=w.heap.size
 aqc:∀k,X k->lo<=k
section
variable{P:Program}
def Jj:Nat->Prop:=λ_=>False
def AX.call(P:Bs)(w:AK):AX P:=⟨w,Jj,none,false,[],w.heap.size,Az _,λ_ h=>h.elim⟩
def AX.n(b:AX P):Nat:=b.w.heap.size
def AX.Du(b:AX P)(k:Nat):Prop:=b.n<=k\/b.X k
def AX.Q2{b:AX P}{k:Nat}(h:b.Du k):b.lo<=k:=h.elim (λh=>CX b.aag h)<|b.aqc k
def AX.lo_le{b:AX P}:b.lo<=b.n:=b.aag
end
section
variable{P:Program}
variable[D:DR]
variable{w:AK}{b:AX P}
structure F1(n:Nat)(w w':AK):Prop extends Below n w w' where
 drawn:GQ w w'
structure E9(w w':AK)(row:A6 Nat):Prop extends w.grownBy w' row where
 drawn:GQ w w'
def F1.refl(n:Nat)(w:AK):F1 n w w:=⟨Below.refl _ _,Az _⟩
def F1.alloc{w:AK}(o:Obj):F1 w.heap.size w (w.alloc o):=⟨(Below.refl _ _).alloc (Az _) _,Az _⟩
def E9.setRow(w:AK)(b:Nat)(cs:Aw AO):E9 w (w.setRow b cs) (some b):=⟨⟨rfl,rfl,rfl,by simp,λk _ hk=>setRow_other w b k _ (λe=>hk (by rw[e]))⟩,Az _⟩
structure Kept(b:AX P)(w:AK):Prop where
 os:w.os=b.w.os
 tape:w.tape=b.w.tape
 output:w.output=b.w.output
 drawn:GQ b.w w
 size:b.n<=w.heap.size
 block:b.IF=false->∀k,k<b.n-> ¬b.X k->w.heap[k]? =b.w.heap[k]?
def Kept.step{w':AK}(h:Kept b w)(k:F1 w.heap.size w w'):Kept b w':=
 ⟨k.os.trans h.os,k.tape.trans h.tape,k.output.trans h.output,CX h.drawn k.drawn,CX h.size k.size,λhv i hi hx=>(k.block i<|K0 hi h.size).trans<|h.block hv i hi hx⟩
def Kept.Ku{w':AK}{row:A6 Nat}(h:Kept b w)(g:E9 w w' row)(hr:∀k,row=some k->b.Du k):Kept b w':=
 ⟨g.os.trans h.os,g.tape.trans h.tape,g.output.trans h.output,CX h.drawn g.drawn,CX h.size g.size,λhv i hi hx=>(g.block i (K0 hi h.size) (λe=>by
  rcases hr i e.symm with h1|h1
  ·omega
  ·exact hx h1)).trans<|h.block hv i hi hx⟩
def Kept.below(h:Kept b w)(hX:b.X=Jj)(hv:b.IF=false):F1 b.w.heap.size b.w w:=⟨⟨h.os,h.tape,h.output,h.size,λk hk=>h.block hv k hk (by rw[hX];exact λh=>h)⟩,h.drawn⟩
end
section
variable{P:Program}
variable{H:HV}{v:AO}{H':HV}
def grow(H:HV)(w w':AK):HV:=λr=>if r<w.heap.size then H r else w'.heap[r]?
def GL:Bool->Aw AO->AO
 |true,cs=> .agg cs
 |false,cs=>cs.getD 0 undef
structure Shape(n:Nat)(agg:Bool)(v:AO):Prop where
 size:v.cells.size=n
 cell:∀c∈v.cells.toList,c.oneCell'=true
 eq:v=GL agg v.cells
def Shape.one(h:v.oneCell'=true):Shape 1 false v:=by
 have hc:v.cells= #[v]:=by cases v<;>first|rfl|simp[Value.oneCell'] at h
 refine⟨by simp[hc],by simp[hc,h],by simp[hc,GL]⟩
structure Ty where
 n:Nat
 agg:Bool
 ok:HV->AO->Prop
 mono:∀{H H':HV} {v:AO},HV.le H H'->ok H v->ok H' v
 shape:∀{H:HV} {v:AO},ok H v->Shape n agg v
def TEq(v:AO)(h:v.oneCell'=true):Ty where
 n:=1
 agg:=false
 ok:=λ_ x=>x=v
 mono:=λ_ h=>h
 shape:=λe=>by subst e;exact Shape.one h
def TI(k:IntKind)(n:Int):Ty:=TEq (.int k n) rfl
def Ar(b:Bool):Ty:=TEq (.bool b) rfl
def SZ(s:ByteArray):Ty:=TEq (.string s) rfl
@[simp] theorem pz{k:IntKind}{n:Int}:(TI k n).ok H v↔v= .int k n:=Iff.rfl
@[simp] theorem atA{b:Bool}:(Ar b).ok H v↔v= .bool b:=Iff.rfl
@[simp] theorem atC{b:ByteArray}:(SZ b).ok H v↔v= .string b:=Iff.rfl
def D4(H:HV):A3 Ty->A3 AO->Prop
 |[],cs=>cs=[]
 |τ::l,cs=>∃v rest,cs=v.cells.toList++rest/\τ.ok H v/\D4 H l rest
def Bx(l:A3 Ty):Nat:=(l.map (·.n)).sum
@[simp] theorem ag7:Bx []=0:=rfl
@[simp] theorem l5(τ:Ty)(l:A3 Ty):Bx (τ::l)=τ.n+Bx l:=by simp[Bx]
def Pt{H H':HV}(h:HV.le H H'):∀{l:A3 Ty} {cs:A3 AO},D4 H l cs->D4 H' l cs
 |[],_,e=>e
 |_::_,_,⟨v,rest,e,hv,hr⟩=>⟨v,rest,e,Ty.mono _ h hv,Pt h hr⟩
def MT{H:HV}:∀{l:A3 Ty} {cs:A3 AO},D4 H l cs->cs.length=Bx l
 |[],_,e=>by subst e;rfl
 |τ::l,_,⟨v,rest,e,hv,hr⟩=>by
  subst e;have:=MT hr;have hs:=(τ.shape hv).size;simp[this,hs]
def RJ{H:HV}:∀{l:A3 Ty} {cs:A3 AO},D4 H l cs->∀c∈cs,c.oneCell'=true
 |[],_,e=>by subst e;simp
 |τ::l,_,⟨v,rest,e,hv,hr⟩=>by
  subst e;intro c hc;rcases BR.1 hc with h|h
  ·exact(τ.shape hv).cell c h
  ·exact RJ hr c h
def R5{H:HV}:∀{l:A3 Ty} {cs:A3 AO} {l':A3 Ty} {Dd:A3 AO},D4 H l cs->D4 H l' Dd->D4 H (l++l') (cs++Dd)
 |[],_,_,_,e,h=>by subst e;simpa using h
 |_::_,_,_,_,⟨v,rest,e,hv,hr⟩,h=>by
  subst e;exact⟨v,_,by simp,hv,R5 hr h⟩
def My{H:HV}:∀{l:A3 Ty} {cs:A3 AO} {i:Nat} {τ:Ty},D4 H l cs->l[i]? =some τ->
  Bx (l.take i)+τ.n<=cs.length/\τ.ok H (GL τ.agg ((cs.drop<|Bx<|l.take i).take τ.n).toArray)
 |[],_,i,_,_,h=>by simp at h
 |σ::l,_,0,τ,⟨v,rest,e,hv,hr⟩,h=>by
  simp at h;subst h;subst e;have hs:=σ.shape hv;refine⟨by simp[hs.size],?_⟩;have:(List.take σ.n<|v.cells.toList++rest).toArray=v.cells:=by
   rw[<-hs.size,<-EB,fP]
  simpa[this,<-hs.eq] using hv
 |σ::l,_,i+1,τ,⟨v,rest,e,hv,hr⟩,h=>by
  simp at h;subst e;have hs:=σ.shape hv;obtain⟨h1,h2⟩:=My hr h;have hd:List.drop (σ.n+Bx (List.take i l)) (v.cells.toList++rest)=List.drop (Bx<|List.take i l) rest:=by
   rw[<-hs.size,<-EB,Nw];simp
  refine⟨?_,?_⟩
  ·simp[hs.size];omega
  ·simp only[fh,l5,hd];exact h2
def TO{H:HV}:∀{l:A3 Ty} {cs:A3 AO} {i:Nat} {τ σ:Ty} {x:AO},D4 H l cs->l[i]? =some τ->σ.n=τ.n->σ.ok H x->
  D4 H (l.set i σ) (cs.take (Bx<|l.take i)++x.cells.toList++cs.drop (Bx (l.take i)+τ.n))
 |[],_,i,_,_,_,_,h,_,_=>by simp at h
 |ρ::l,_,0,τ,σ,x,⟨v,rest,e,hv,hr⟩,h,hn,hx=>by
  simp at h;subst h;subst e;have hs:=ρ.shape hv;have hd:List.drop ρ.n (v.cells.toList++rest)=rest:=by
   rw[<-hs.size,<-EB,VN]
  simp only[List.set_cons_zero,List.take_zero,ag7,Nt,I4,hd];exact⟨x,rest,rfl,hx,hr⟩
 |ρ::l,_,i+1,τ,σ,x,⟨v,rest,e,hv,hr⟩,h,hn,hx=>by
  simp at h;subst e;have hs:=ρ.shape hv;have ih:=TO hr h hn hx;have h1:List.take (ρ.n+Bx (List.take i l)) (v.cells.toList++rest)=v.cells.toList++List.take (Bx<|List.take i l) rest:=by
   rw[<-hs.size,<-EB,Yk];simp[CB]
  have h2:List.drop (ρ.n+Bx (List.take i l)+τ.n) (v.cells.toList++rest)=List.drop (Bx (List.take i l)+τ.n) rest:=by
   rw[<-hs.size,<-EB,KY,Nw];simp
  simp only[List.set_cons_succ,fh,l5,h1,h2];exact⟨v,_,by simp,hv,ih⟩
def Co(l:A3 Ty):Ty where
 n:=Bx l
 agg:=true
 ok:=λH v=>∃cs,v= .agg cs/\D4 H l cs.toList
 mono:=λh ⟨cs,e,k⟩=>⟨cs,e,Pt h k⟩
 shape:=λ⟨cs,e,k⟩=>by
  subst e;exact⟨by simpa[Value.cells] using MT k,by simpa[Value.cells] using RJ k,rfl⟩
def EW(H:HV):A3 Ty->A3 AO->Prop
 |[],vs=>vs=[]
 |τ::l,vs=>∃v rest,vs=v::rest/\τ.ok H v/\EW H l rest
def Y2{H H':HV}(h:HV.le H H'):∀{l:A3 Ty} {vs:A3 AO},EW H l vs->EW H' l vs
 |[],_,e=>e
 |_::_,_,⟨v,rest,e,hv,hr⟩=>⟨v,rest,e,Ty.mono _ h hv,Y2 h hr⟩
def zJ{H:HV}:∀{l:A3 Ty} {vs:A3 AO} {i:Nat} {τ:Ty},EW H l vs->l[i]? =some τ->∃v,vs[i]? =some v/\τ.ok H v
 |[],_,i,_,_,h=>by simp at h
 |_::_,_,0,_,⟨v,rest,e,hv,_⟩,h=>by simp at h;subst h;subst e;exact⟨v,rfl,hv⟩
 |_::_,_,i+1,_,⟨v,rest,e,_,hr⟩,h=>by simp at h;subst e;simpa using zJ hr h
def RQ{H:HV}:∀{l:A3 Ty} {vs:A3 AO},EW H l vs->vs.length=l.length
 |[],_,e=>by subst e;rfl
 |_::_,_,⟨v,rest,e,_,hr⟩=>by subst e;simp[RQ hr]
def JZ(τ:Ty):Ty where
 n:=1
 agg:=false
 ok:=λH v=>∃b off cs E fr,v= .pointer (some ⟨b,off,none⟩)/\H b=some (.cells cs E fr)/\off+τ.n<=cs.size/\
  τ.ok H (GL τ.agg ((cs.toList.drop off).take τ.n).toArray)
 mono:=λh ⟨b,off,cs,E,fr,e,hb,hl,k⟩=>⟨b,off,cs,E,fr,e,h _ _ hb,hl,τ.mono h k⟩
 shape:=λ⟨_,_,_,_,_,e,_⟩=>by subst e;exact Shape.one rfl
def FY(l:A3 Ty):Ty where
 n:=1
 agg:=false
 ok:=λH v=>∃ad cap,v= .slice ad l.length cap/\l.length<=cap/\
  (l≠[]->∃b off cs E fr,ad=some ⟨b,off,none⟩/\H b=some (.cells cs E fr)/\off+Bx l<=cs.size/\D4 H l ((cs.toList.drop off).take<|Bx l))
 mono:=λh ⟨ad,cap,e,hc,k⟩=>⟨ad,cap,e,hc,λhl=>by
  obtain⟨b,off,cs,E,fr,e1,hb,hs,ho⟩:=k hl;exact⟨b,off,cs,E,fr,e1,h _ _ hb,hs,Pt h ho⟩⟩
 shape:=λ⟨_,_,e,_,_⟩=>by subst e;exact Shape.one rfl
def TEx{α:Type}(n:Nat)(agg:Bool)(p:α->Prop)(τ:α->Ty)(hn:∀a,(τ a).n=n)(ha:∀a,(τ a).agg=agg):Ty where
 n:=n
 agg:=agg
 ok:=λH v=>∃a,p a/\(τ a).ok H v
 mono:=λh ⟨a,pa,k⟩=>⟨a,pa,(τ a).mono h k⟩
 shape:=λ⟨a,_,k⟩=>by have:=(τ a).shape k;rw[hn,ha] at this;exact this
def okM(H:HV):Nat->A3 (Ty×Ty)->A3 MapEntry->Prop
 |_,[],[]=>True
 |i,(k,e)::l,x::xs=>k.ok H x.key/\e.ok H x.val/\x.born=i/\okM H (i+1) l xs
 |_,_,_=>False
def mZ{H H':HV}(h:HV.le H H'):∀{i:Nat} {l:A3 (Ty×Ty)} {es:A3 MapEntry},okM H i l es->okM H' i l es
 |_,[],[],_=>trivial
 |_,[],_::_,k=>k.elim
 |_,(_,_)::_,[],k=>k.elim
 |_,(k,e)::_,_::_,⟨h1,h2,h3,h4⟩=>⟨k.mono h h1,e.mono h h2,h3,mZ h h4⟩
def jA(L:A3 (Ty×Ty)):Ty where
 n:=1
 agg:=false
 ok:=λH v=>∃r es,v= .map (some r)/\H r=some (.map es es.size)/\okM H 0 L es.toList
 mono:=λh ⟨r,es,e,hr,k⟩=>⟨r,es,e,h _ _ hr,mZ h k⟩
 shape:=λ⟨_,_,e,_,_⟩=>by subst e;exact Shape.one rfl
end
section
variable{P:Program}
variable[D:DR]
variable{w:AK}{H:HV}{B:AX P}{v:AO}{a:Act}{w':AK}{H':HV}{b:Nat}{Eb:Af}{w0:AX P}{H0:HV}{N d:Nat}{B':AX P}{E:Af}{l:A3 Ty}
structure Far(n:Nat)(own:Nat->Prop)(w:AK)(H:HV)(w':AK)(H':HV):Prop where
 size:w.heap.size<=w'.heap.size
 os:w'.os=w.os
 tape:w'.tape=w.tape
 output:w'.output=w.output
 drawn:GQ w w'
 le:HV.le H H'
 Dh:∀b,b<w.heap.size->(b<n\/own b)->w'.heap[b]? =w.heap[b]?
 view:∀b,b<w.heap.size->(b<n\/own b)->H' b=H b
 sub:∀r o,H' r=some o->w'.heap[r]? =some o
def Far.imp{n m:Nat}{p q:Nat->Prop}{w w':AK}{H H':HV}(h:Far n p w H w' H')(hm:m<=n)(hq:∀b,q b->p b):Far m q w H w' H':=
 ⟨h.size,h.os,h.tape,h.output,h.drawn,h.le,λb hb k=>h.Dh b hb<|k.imp (λx=>K0 x hm)<|hq b,λb hb k=>h.view b hb<|k.imp (λx=>K0 x hm)<|hq b,h.sub⟩
def Z8:Obj->Prop
 | .deferred _=>False
 |_=>True
structure Inv where
 n:Nat
 M:Nat->Prop
 p:AK->HV->Prop
 lt:∀{w:AK} {H:HV} {b:Nat},p w H->M b->b<w.heap.size/\H b=none/\∃o,w.heap[b]? =some o/\Z8 o
 step:∀{w w':AK} {H H':HV},p w H->Far n M w H w' H'->p w' H'
inductive Ck where
 |val(τ:Ty)
 |buf(l:A3 Ty)
 |any
inductive Bk where
 |val(τ:Ty)
 |any(n:Nat)(agg:Bool)
 |sm(u:Nat)
 |buf(E:Af)(sz:Nat)(l:A3 Ty)
 |map(K E:Af)(Eb:Af)(sz:Nat)(E7:A3 (Ty×Ck))
inductive AJ where
 |val(τ:Ty)
 |Kz(l:A3 Ty)
 |own(T:Af)(τ:Ty)
 |ptr(t off:Nat)
 |opt(c:Bool)(s:AJ)
 |same(t:Nat)
 |JX(t j sz:Nat)
 |bpf(t off:Nat)
 |gone
 |buf(E:Af)(sz:Nat)(l:A3 Ty)
 |NV(x:AO)(E:Af)(sz:Nat)(l:A3 Ty)
 |Ca(T:Af)(agg:Bool)(ps:A3 Bk)
 |GJ(K E:Af)(Eb:Af)(sz:Nat)(E7:A3 (Ty×Ck))
 |Qb(Eb:Af)(sz:Nat)(l:A3 Ty)(i:Nat)
 |inv(I:Inv)
 |Jh(t:Nat)(v:AO)
 |DX(l:Nat)(rc:Loop)
 |IX(L:A3 (Ty×Ty))(seen:A3 Nat)
 |vec(k:A6 FuncId)(us:A3 Nat)
 |SG(t:Nat)(i:Int)
 |HW(T E:Af)(l:A3 Ty)
 |EZ(E:Af)(pre post:A3 AO)(l:A3 Ty)
 |win(t j n sz:Nat)
 |Mf(t i sz:Nat)
def AT(a:Act)(t:Nat):AO:=a.tmps.getD t undef
def Zc(a:Act)(k:A6 FuncId)(us:A3 Nat):AO:=match k with
 |none=> .agg (us.map<|AT a).toArray
 |some f=> .func (.func f) #[] (us.map<|AT a).toArray
def Kq(B:AX P)(w:AK)(H:HV)(E:Af)(sz:Nat)(l:A3 Ty)(v:AO):Prop:=
 ∃xs,w.ownsRow 0 E sz v l.length xs/\D4 H l xs/\∀b,v.ownBlock=some b->H b=none/\B.Du b
def Ck.holds(B:AX P)(w:AK)(H:HV)(Eb:Af)(sz:Nat)(v:AO):Ck->Prop
 | .val τ=>τ.ok H v
 | .buf l=>Kq B w H Eb sz l v
 | .any=>True
def Ck.owns(v:AO)(b:Nat):Ck->Prop
 | .buf _=>v.ownBlock=some b
 |_=>False
def Ji(B:AX P)(w:AK)(H:HV)(Eb:Af)(sz:Nat):Nat->A3 (Ty×Ck)->A3 MapEntry->Prop
 |_,[],[]=>True
 |i,(k,e)::l,x::xs=>k.ok H x.key/\e.holds B w H Eb sz x.val/\x.born=i/\Ji B w H Eb sz (i+1) l xs
 |_,_,_=>False
def HC(b:Nat):A3 (Ty×Ck)->A3 MapEntry->Prop
 |(_,e)::l,x::xs=>e.owns x.val b\/HC b l xs
 |_,_=>False
def OO:A3 (Ty×Ck)->A3 MapEntry->Prop
 |(_,e)::l,x::xs=>(∀b,e.owns x.val b-> ¬HC b l xs)/\OO l xs
 |_,_=>True
def QS(B:AX P)(w:AK)(H:HV)(Eb:Af)(sz:Nat)(E7:A3 (Ty×Ck))(v:AO):Prop:=
 ∃r es,v= .map (some r)/\w.heap[r]? =some (.map es es.size)/\H r=none/\B.Du r/\Ji B w H Eb sz 0 E7 es.toList/\OO E7 es.toList
def Oz(w:AK)(E7:A3 (Ty×Ck))(v:AO)(b:Nat):Prop:=
 v= .map (some b)\/∃r es,v= .map (some r)/\w.heap[r]? =some (.map es es.size)/\HC b E7 es.toList
def Bk.n:Bk->Nat
 | .val τ=>τ.n
 | .any n _=>n
 |_=>1
def Bk.agg:Bk->Bool
 | .val τ=>τ.agg
 | .any _ a=>a
 |_=>false
def Bk.holds(B:AX P)(a:Act)(w:AK)(H:HV)(v:AO):Bk->Prop
 | .val τ=>τ.ok H v
 | .any n g=>Shape n g v
 | .sm u=>v=AT a u/\v.oneCell'=true
 | .buf E sz l=>Kq B w H E sz l v
 | .map _ _ Eb sz E7=>QS B w H Eb sz E7 v
def Bk.owns(w:AK)(v:AO)(b:Nat):Bk->Prop
 | .buf _ _ _=>v.ownBlock=some b
 | .map _ _ _ _ E7=>Oz w E7 v b
 |_=>False
def IH(B:AX P)(a:Act)(w:AK)(H:HV):A3 Bk->A3 AO->Prop
 |[],cs=>cs=[]
 |p::l,cs=>∃v rest,cs=v.cells.toList++rest/\Shape p.n p.agg v/\p.holds B a w H v/\IH B a w H l rest
def Fh(w:AK)(b:Nat):A3 Bk->A3 AO->Prop
 |[],_=>False
 |p::l,cs=>p.owns w (GL p.agg (cs.take p.n).toArray) b\/Fh w b l (cs.drop p.n)
def NU(w:AK):A3 Bk->A3 AO->Prop
 |[],_=>True
 |p::l,cs=>(∀b,p.owns w (GL p.agg (cs.take p.n).toArray) b-> ¬Fh w b l (cs.drop p.n))/\NU w l (cs.drop p.n)
def AJ.holds(B:AX P)(a:Act)(w:AK)(H:HV)(v:AO):AJ->Prop
 | .val τ=>τ.ok H v
 | .Kz l=>∃vs,v= .tuple vs/\EW H l vs.toList
 | .own T τ=>∃b x,v= .pointer (some ⟨b,0,none⟩)/\w.heap[b]? =some (.cells x.cells T (0,0))/\τ.ok H x/\H b=none/\B.Du b
 | .ptr t off=>∃b,AT a t= .pointer (some ⟨b,0,none⟩)/\v= .pointer (some ⟨b,off,none⟩)
 | .opt c s=>(c=true->s.holds B a w H v)/\(c=false->v=undef)
 | .same t=>v=AT a t
 | .JX t j sz=>∃b len cap,AT a t= .slice (some ⟨b,0,none⟩) len cap/\v= .pointer (some ⟨b,j*sz,none⟩)
 | .bpf t off=>∃b len cap,AT a t= .slice (some ⟨b,0,none⟩) len cap/\v= .pointer (some ⟨b,off,none⟩)
 | .gone=>True
 | .buf E sz l=>Kq B w H E sz l v
 | .NV x E sz l=>Kq B w H E sz l x
 | .Ca T _ ps=>∃b cs,v= .pointer (some ⟨b,0,none⟩)/\w.heap[b]? =some (.cells cs T (0,0))/\H b=none/\B.Du b/\IH B a w H ps cs.toList/\NU w ps cs.toList/\ ¬Fh w b ps cs.toList
 | .GJ _ _ Eb sz E7=>QS B w H Eb sz E7 v
 | .Qb Eb sz l i=>∃x,v= .tuple #[x,.int .i64 i]/\Kq B w H Eb sz l x
 | .inv I=>I.p w H/\I.n=B.lo
 | .Jh t x=>AT a t=x
 | .DX l rc=>w.heap[l]? =some (.loop rc)/\H l=none/\B.Du l
 | .vec k us=>v=Zc a k us
 | .SG t i=>∃x,AT a t= .tuple #[x,.int .i64 i]
 | .EZ E pre post l=>∃g c cur xs,v= .slice (some ⟨g,pre.length,none⟩) l.length c/\w.heap[g]? =some (.cells cur E (0,0))/\cur.toList=pre++(xs++post)/\D4 H l xs/\H g=none/\B.Du g
 | .win t j n sz=>∃g len cap c,AT a t= .slice (some ⟨g,0,none⟩) len cap/\v= .slice (some ⟨g,j*sz,none⟩) n c
 | .Mf t i sz=>∃g o n c,AT a t= .slice (some ⟨g,o,none⟩) n c/\v= .pointer (some ⟨g,o+i*sz,none⟩)
 | .HW T E l=>∃b p r,v= .pointer (some ⟨b,0,none⟩)/\w.heap[b]? =some (.cells #[p,r] T (0,0))/\(p= .pointer none\/p= .pointer (some ⟨b,0,none⟩))/\H b=none/\B.Du b/\Kq B w H E 1 l r/\r.ownBlock≠some b
 | .IX L seen=>∃r m es sn,v= .pointer (some ⟨r,0,none⟩)/\w.heap[r]? =some (.mapIter (some m) es.size sn es.size)/\H r=none/\B.Du r/\H m=some (.map es es.size)/\okM H 0 L es.toList/\sn.toList=seen
def AJ.owns(w:AK)(v:AO)(b:Nat):AJ->Prop
 | .own _ _=>∃ad,v= .pointer (some ad)/\ad.block=b
 | .buf _ _ _=>v.ownBlock=some b
 | .NV x _ _ _=>x.ownBlock=some b
 | .opt c s=>c=true/\s.owns w v b
 | .Ca T _ ps=>∃c,v= .pointer (some ⟨c,0,none⟩)/\(b=c\/∃cs,w.heap[c]? =some (.cells cs T (0,0))/\Fh w b ps cs.toList)
 | .GJ _ _ _ _ E7=>Oz w E7 v b
 | .Qb _ _ _ _=>∃x i,v= .tuple #[x,i]/\x.ownBlock=some b
 | .inv I=>I.M b
 | .DX l _=>b=l
 | .IX _ _=>∃ad,v= .pointer (some ad)/\ad.block=b
 | .EZ _ _ _ _=>v.ownBlock=some b
 | .HW T _ _=>∃c,v= .pointer (some ⟨c,0,none⟩)/\(b=c\/∃p r,w.heap[c]? =some (.cells #[p,r] T (0,0))/\r.ownBlock=some b)
 |_=>False
def QQ:A3 Bk->A3 Nat
 |[]=>[]
 | .sm u::l=>u::QQ l
 |_::l=>QQ l
def AJ.Bn:AJ->A3 Nat
 | .ptr t _=>[t]
 | .same t=>[t]
 | .JX t _ _=>[t]
 | .bpf t _=>[t]
 | .opt _ s=>s.Bn
 | .Ca _ _ ps=>QQ ps
 | .Jh t _=>[t]
 | .vec _ us=>us
 | .SG t _=>[t]
 | .win t _ _ _=>[t]
 | .Mf t _ _=>[t]
 |_=>[]
abbrev Ctx:=A3<|Nat×AJ
def Marks(B:AX P)(w:AK)(H:HV):A3 Deferred->Prop
 |[]=>True
 |d::ds=>(∃D,d={target:= .collected D,args:= #[]}/\(B.rd=none->B.n<=D)/\w.heap[D]? =some (.deferred<|some [])/\H D=none/\∀e∈ds,e≠d)/\Marks B w H ds
def Marks.kept{B:AX P}{w w':AK}{H H':HV}:∀{ds:A3 Deferred},Marks B w H ds->(∀D,({target:= .collected D,args:= #[]}:Deferred)∈ds->w.heap[D]? =some (.deferred<|some [])->H D=none->w'.heap[D]? =some (.deferred<|some [])/\H' D=none)->Marks B w' H' ds
 |[],_,_=>trivial
 |_::_,⟨⟨D,e,h1,h2,h3,h4⟩,r⟩,k=>⟨⟨D,e,h1,(k D (by simp[e]) h2 h3).1,(k D (by simp[e]) h2 h3).2,h4⟩,r.kept λD hD=>k D<|Bi _ hD⟩
structure Sat(w0:AX P)(H0:HV)(N:Nat)(Γ:Ctx)(a:Act)(w:AK)(H:HV):Prop where
 nd:Marks w0 w H (a.defers++w0.ds)
 sz:a.tmps.size=N
 below:Kept w0 w
 Ed:w0.IF=false->∀r,r<w0.n-> ¬w0.X r->H r=H0 r
 sub:∀r o,H r=some o->w.heap[r]? =some o
 holds:∀p∈Γ,p.2.holds w0 a w H<|AT a p.1
 sep:∀p∈Γ,∀q∈Γ,p.1≠q.1->∀b,p.2.owns w (AT a p.1) b-> ¬q.2.owns w (AT a q.1) b
 gl:Kp P H
def Sat.weaken{Γ Ae:Ctx}(h:Sat w0 H0 N Γ a w H)(hs:∀p∈Ae,p∈Γ):Sat w0 H0 N Ae a w H:=
 {h with holds:=λp hp=>h.holds p<|hs p hp,sep:=λp hp q hq=>h.sep p (hs p hp) q (hs q hq)}
def Gk(sub:∀r o,H r=some o->w.heap[r]? =some o){r:Nat}{o:Obj}(h:H r=some o):r<w.heap.size:=
 (PI.1<|sub r o h).1
structure Ext(w:AK)(H:HV)(w':AK)(H':HV):Prop where
 below:F1 w.heap.size w w'
 le:HV.le H H'
 Ed:∀r,r<w.heap.size->H' r=H r
 sub:∀r o,H' r=some o->w'.heap[r]? =some o
def Ext.refl{w:AK}{H:HV}(sub:∀r o,H r=some o->w.heap[r]? =some o):Ext w H w H:=
 ⟨F1.refl _ _,HV.le.refl _,λ_ _=>rfl,sub⟩
def Ext.L4(h:Ext w H w' H')(n:Nat)(p:Nat->Prop):Far n p w H w' H':=
 ⟨h.below.size,h.below.os,h.below.tape,h.below.output,h.below.drawn,h.le,λb hb _=>h.below.block b hb,λb hb _=>h.Ed b hb,h.sub⟩
def Ext.grown(sub:∀r o,H r=some o->w.heap[r]? =some o)(hb:F1 w.heap.size w w'):Ext w H w' (grow H w w'):=by
 refine⟨hb,?_,?_,?_⟩
 ·intro r o h;have:=Gk sub h;simp[grow,this,h]
 ·intro r h;simp[grow,h]
 ·intro r o h;by_cases hr:r<w.heap.size
  ·simp[grow,hr] at h;rw[hb.block r hr];exact sub r o h
  ·simpa[grow,hr] using h
def Ext.alloc{w:AK}{H:HV}(sub:∀r o,H r=some o->w.heap[r]? =some o)(o:Obj):Ext w H (w.alloc o) H:=by
 refine⟨F1.alloc _,HV.le.refl _,λ_ _=>rfl,?_⟩;intro r x h;have:=Gk sub h;rw[heap_alloc_old w o this];exact sub r x h
def Zv(B:AX P)(w:AK)(H:HV)(b:Nat):Prop:=b<w.heap.size/\B.Du b/\H b=none/\∃o,w.heap[b]? =some o/\Z8 o
def lt_of_heap{o:Obj}(h:w.heap[b]? =some o):b<w.heap.size:=(PI.1 h).1
def Ha{sz:Nat}(h:Kq B w H E sz l v)(hb:v.ownBlock=some b):Zv B w H b:=by
 obtain⟨xs,hr,ho,hn⟩:=h;refine⟨(hr.lt b hb).2,(hn b hb).2,(hn b hb).1,?_⟩;obtain⟨_,(⟨e,_⟩|⟨g,cap,cur,e,_,hc,_⟩)⟩:=hr
 ·subst e;simp[Value.ownBlock] at hb
 ·subst e;simp[Value.ownBlock] at hb;subst hb;exact⟨_,hc,trivial⟩
def vP{B:AX P}{w:AK}{H:HV}{Eb:Af}{sz:Nat}{b:Nat}:∀{i:Nat} {l:A3 (Ty×Ck)} {es:A3 MapEntry},Ji B w H Eb sz i l es->HC b l es->Zv B w H b
 |_,[],_,_,h=>by simp[HC] at h
 |_,(_,_)::_,[],_,h=>by simp[HC] at h
 |i,(k,e)::l,x::xs,⟨_,he,_,hr⟩,h=>by
  rcases h with h|h
  ·cases e with
   |val τ=>exact h.elim
   |any=>exact h.elim
   |buf l=>exact Ha he h
  ·exact vP hr h
def RV{sz:Nat}{E7:A3 (Ty×Ck)}(h:QS B w H Eb sz E7 v)(hb:Oz w E7 v b):Zv B w H b:=by
 obtain⟨r,es,e,hr,hn,hm,ho,hs⟩:=h;subst e;rcases hb with hb|⟨r',HU,e',KK,hb⟩
 ·cases hb;exact⟨lt_of_heap hr,hm,hn,_,hr,trivial⟩
 ·cases e';rw[hr] at KK;cases KK;exact vP ho hb
def aiX:∀{p:Bk},p.holds B a w H v->p.owns w v b->Zv B w H b
 | .val _,_,h=>h.elim
 | .any _ _,_,h=>h.elim
 | .sm _,_,h=>h.elim
 | .buf _ _ _,k,h=>Ha k h
 | .map _ _ _ _ _,k,h=>RV k h
def Pu{p:Bk}{rest:A3 AO}(h:Shape p.n p.agg v):GL p.agg ((v.cells.toList++rest).take p.n).toArray=v/\(v.cells.toList++rest).drop p.n=rest:=by
 have hs:=h.size;constructor
 ·have:(List.take p.n<|v.cells.toList++rest).toArray=v.cells:=by
   rw[<-hs,<-EB,fP]
  rw[this];exact h.eq.symm
 ·rw[<-hs,<-EB,VN]
def Pp{B:AX P}{a:Act}{w:AK}{H:HV}{b:Nat}:∀{ps:A3 Bk} {cs:A3 AO},IH B a w H ps cs->Fh w b ps cs->Zv B w H b
 |[],_,_,h=>h.elim
 |p::l,_,⟨v,rest,e,By,hv,hr⟩,h=>by
  subst e;obtain⟨e1,e2⟩:=Pu (rest:=rest) By;rcases h with h|h
  ·rw[e1] at h;exact aiX hv h
  ·rw[e2] at h;exact Pp hr h
def AJ.IP{B:AX P}{a:Act}{w:AK}{H:HV}{v:AO}{b:Nat}:∀{s:AJ},s.holds B a w H v->s.owns w v b->b<w.heap.size/\H b=none/\∃o,w.heap[b]? =some o/\Z8 o
 | .val _,_,h=>h.elim
 | .Kz _,_,h=>h.elim
 | .ptr _ _,_,h=>h.elim
 | .same _,_,h=>h.elim
 | .JX _ _ _,_,h=>h.elim
 | .bpf _ _,_,h=>h.elim
 | .gone,_,h=>h.elim
 | .Jh _ _,_,h=>h.elim
 | .vec _ _,_,h=>h.elim
 | .SG _ _,_,h=>h.elim
 | .own T τ,⟨c,x,e,hb,hx,hn,hB⟩,⟨ad,e',h⟩=>by
  subst e;cases e';cases h;exact⟨lt_of_heap hb,hn,_,hb,trivial⟩
 | .buf _ _ _,h,k=>⟨(Ha h k).1,(Ha h k).2.2⟩
 | .NV _ _ _ _,h,k=>⟨(Ha h k).1,(Ha h k).2.2⟩
 | .Ca T _ ps,⟨c,cs,e,hb,hn,hB,ho,hs,hx⟩,⟨c',e',h⟩=>by
  subst e;cases e';rcases h with h|⟨Dd,B2,h⟩
  ·subst h;exact⟨lt_of_heap hb,hn,_,hb,trivial⟩
  ·rw[hb] at B2;cases B2;exact⟨(Pp ho h).1,(Pp ho h).2.2⟩
 | .GJ _ _ _ _ _,h,k=>⟨(RV h k).1,(RV h k).2.2⟩
 | .Qb _ _ _ _,⟨x,e,h⟩,⟨x',i',e',k⟩=>by
  rw[e] at e';cases e';exact⟨(Ha h k).1,(Ha h k).2.2⟩
 | .opt c s,h,⟨hc,k⟩=>AJ.IP (s:=s) (h.1 hc) k
 | .inv I,⟨h,_⟩,k=>I.lt h k
 | .DX l _,⟨h,h2,h3⟩,k=>by
  have k:b=l:=k;subst k;exact⟨lt_of_heap h,h2,_,h,trivial⟩
 | .IX _ _,⟨r,m,es,sn,e,h1,h2,_⟩,⟨ad,e',h⟩=>by
  subst e;cases e';cases h;exact⟨lt_of_heap h1,h2,_,h1,trivial⟩
 | .win _ _ _ _,_,h=>h.elim
 | .Mf _ _ _,_,h=>h.elim
 | .EZ _ _ _ _,⟨g,c,cur,xs,e,hb,_,_,hn,_⟩,h=>by
  subst e;cases h;exact⟨lt_of_heap hb,hn,_,hb,trivial⟩
 | .HW _ _ _,⟨c,p,r,e,hb,_,hn,_,ho,_⟩,⟨c',e',h⟩=>by
  subst e;cases e';rcases h with h|⟨p',r',B2,h⟩
  ·subst h;exact⟨lt_of_heap hb,hn,_,hb,trivial⟩
  ·have e2:=hb.symm.trans B2;simp at e2;obtain⟨rfl,rfl⟩:=e2;exact⟨(Ha ho h).1,(Ha ho h).2.2⟩
def VF{sz:Nat}(h:Kq B w H E sz l v)(hle:HV.le H H')
 (hk:∀b,v.ownBlock=some b->w'.heap[b]? =w.heap[b]? /\H' b=H b):Kq B w' H' E sz l v:=by
 obtain⟨xs,⟨hl,hr⟩,ho,hn⟩:=h;refine⟨xs,⟨hl,?_⟩,Pt hle ho,λb hb=>⟨by rw[(hk b hb).2];exact(hn b hb).1,(hn b hb).2⟩⟩;rcases hr with hr|⟨g,cap,cur,e,h1,hc,h2⟩
 ·exact .inl hr
 ·refine .inr ⟨g,cap,cur,e,h1,?_,h2⟩;rw[(hk g (by rw[e];rfl)).1];exact hc
def o8{B:AX P}{w w':AK}{H H':HV}{Eb:Af}{sz:Nat}(hle:HV.le H H'):∀{i:Nat} {l:A3 (Ty×Ck)} {es:A3 MapEntry},Ji B w H Eb sz i l es->
  (∀b,HC b l es->w'.heap[b]? =w.heap[b]? /\H' b=H b)->Ji B w' H' Eb sz i l es
 |_,[],[],_,_=>trivial
 |_,[],_::_,h,_=>h.elim
 |_,(_,_)::_,[],h,_=>h.elim
 |i,(k,e)::l,x::xs,⟨hk,he,hb,hr⟩,hx=>by
  refine⟨k.mono hle hk,?_,hb,o8 hle hr λb h=>hx b<| .inr h⟩;cases e with
  |val τ=>exact τ.mono hle he
  |any=>trivial
  |buf l=>exact VF he hle λb h=>hx b<| .inl h
def y9{sz:Nat}{E7:A3 (Ty×Ck)}(h:QS B w H Eb sz E7 v)(hle:HV.le H H')
 (hk:∀b,Oz w E7 v b->w'.heap[b]? =w.heap[b]? /\H' b=H b):QS B w' H' Eb sz E7 v/\∀b,Oz w' E7 v b↔Oz w E7 v b:=by
 obtain⟨r,es,e,hr,hn,hm,ho,hs⟩:=h;subst e;have k0:=hk r<| .inl rfl
 have KK:w'.heap[r]? =some (.map es es.size):=by rw[k0.1];exact hr
 refine⟨⟨r,es,rfl,KK,by rw[k0.2];exact hn,hm,o8 hle ho λb h=>hk b<| .inr ⟨r,es,rfl,hr,h⟩,hs⟩,λb=>?_⟩;constructor
 ·rintro(h|⟨r1,es1,e1,h1,h2⟩)
  ·exact .inl h
  ·cases e1;rw[KK] at h1;cases h1;exact .inr ⟨r,es,rfl,hr,h2⟩
 ·rintro(h|⟨r1,es1,e1,h1,h2⟩)
  ·exact .inl h
  ·cases e1;rw[hr] at h1;cases h1;exact .inr ⟨r,es,rfl,KK,h2⟩
def aiY(hle:HV.le H H'):∀{p:Bk},p.holds B a w H v->(∀b,p.owns w v b->w'.heap[b]? =w.heap[b]? /\H' b=H b)->
  p.holds B a w' H' v/\∀b,p.owns w' v b↔p.owns w v b
 | .val τ,h,_=>⟨τ.mono hle h,λ_=>Iff.rfl⟩
 | .any _ _,h,_=>⟨h,λ_=>Iff.rfl⟩
 | .sm _,h,_=>⟨h,λ_=>Iff.rfl⟩
 | .buf _ _ _,h,k=>⟨VF h hle k,λ_=>Iff.rfl⟩
 | .map _ _ _ _ _,h,k=>y9 h hle k
def fA{B:AX P}{a:Act}{w w':AK}{H H':HV}(hle:HV.le H H'):∀{ps:A3 Bk} {cs:A3 AO},IH B a w H ps cs->(∀b,Fh w b ps cs->w'.heap[b]? =w.heap[b]? /\H' b=H b)->
  IH B a w' H' ps cs/\(∀b,Fh w' b ps cs↔Fh w b ps cs)/\(NU w ps cs->NU w' ps cs)
 |[],_,h,_=>⟨h,λ_=>Iff.rfl,λh=>h⟩
 |p::l,_,⟨v,rest,e,By,hv,hr⟩,k=>by
  subst e;obtain⟨e1,e2⟩:=Pu (rest:=rest) By;simp only[Fh,NU,e1,e2] at k⊢;obtain⟨h1,h2⟩:=aiY hle hv λb h=>k b<| .inl h
  obtain⟨h3,h4,h5⟩:=fA hle hr λb h=>k b<| .inr h
  refine⟨⟨v,rest,rfl,By,h1,h3⟩,λb=>or_congr (h2 b)<|h4 b,λ⟨a1,a2⟩=>⟨λb hb=>?_,h5 a2⟩⟩;rw[h4];exact a1 b<|(h2 b).1 hb
def AJ.Eg:AJ->Bool
 | .inv _=>true
 | .opt _ s=>s.Eg
 |_=>false
def AJ.Us{B:AX P}{a:Act}{w w':AK}{H H':HV}{v:AO}{n:Nat}:∀{s:AJ},s.holds B a w H v->(s.Eg=true->n=B.lo)->Far n (λb=>s.owns w v b) w H w' H'->s.holds B a w' H' v/\∀b,s.owns w' v b↔s.owns w v b
 | .val τ,h,_,F=>⟨τ.mono F.le h,λ_=>Iff.rfl⟩
 | .Kz _,⟨vs,e,k⟩,_,F=>⟨⟨vs,e,Y2 F.le k⟩,λ_=>Iff.rfl⟩
 | .own T τ,⟨b,x,e,hb,hx,hn,hB⟩,_,F=>by
  subst e;have hlt:=lt_of_heap hb;have ho:(AJ.own T τ).owns w (.pointer<|some ⟨b,0,none⟩) b:=⟨_,rfl,rfl⟩;exact⟨⟨b,x,rfl,by rw[F.Dh b hlt<| .inr ho];exact hb,τ.mono F.le hx,by rw[F.view b hlt<| .inr ho];exact hn,hB⟩,λ_=>Iff.rfl⟩
 | .ptr _ _,h,_,_=>⟨h,λ_=>Iff.rfl⟩
 | .opt c s,h,hi,F=>by
  cases c with
  |false=>exact⟨⟨(λe=>by cases e),h.2⟩,λb=>by simp[AJ.owns]⟩
  |true=>
   obtain⟨h1,h2⟩:=Us (s:=s) (h.1 rfl) hi<|F.imp (Az _) λb hb=>⟨rfl,hb⟩
   exact⟨⟨λ_=>h1,h.2⟩,λb=>by simp only[AJ.owns,h2]⟩
 | .same _,h,_,_=>⟨h,λ_=>Iff.rfl⟩
 | .JX _ _ _,h,_,_=>⟨h,λ_=>Iff.rfl⟩
 | .bpf _ _,h,_,_=>⟨h,λ_=>Iff.rfl⟩
 | .gone,h,_,_=>⟨h,λ_=>Iff.rfl⟩
 | .Jh _ _,h,_,_=>⟨h,λ_=>Iff.rfl⟩
 | .vec _ _,h,_,_=>⟨h,λ_=>Iff.rfl⟩
 | .SG _ _,h,_,_=>⟨h,λ_=>Iff.rfl⟩
 | .buf _ _ _,h,_,F=>⟨VF h F.le λb hb=>⟨F.Dh b (Ha h hb).1<| .inr hb,F.view b (Ha h hb).1<| .inr hb⟩,λ_=>Iff.rfl⟩
 | .NV _ _ _ _,h,_,F=>⟨VF h F.le λb hb=>⟨F.Dh b (Ha h hb).1<| .inr hb,F.view b (Ha h hb).1<| .inr hb⟩,λ_=>Iff.rfl⟩
 | .Ca T g ps,⟨c,cs,e,hb,hn,hB,ho,hs,hx⟩,_,F=>by
  subst e;have hlt:=lt_of_heap hb;have oc:(AJ.Ca T g ps).owns w (.pointer<|some ⟨c,0,none⟩) c:=⟨c,rfl,.inl rfl⟩;have op:∀b,Fh w b ps cs.toList->(AJ.Ca T g ps).owns w (.pointer<|some ⟨c,0,none⟩) b:=λb h=>⟨c,rfl,.inr ⟨cs,hb,h⟩⟩
  have B2:w'.heap[c]? =some (.cells cs T (0,0)):=by rw[F.Dh c hlt<| .inr oc];exact hb
  obtain⟨h1,h2,h3⟩:=fA F.le ho λb h=>⟨F.Dh b (Pp ho h).1<| .inr<|op b h,F.view b (Pp ho h).1<| .inr<|op b h⟩
  refine⟨⟨c,cs,rfl,B2,by rw[F.view c hlt<| .inr oc];exact hn,hB,h1,h3 hs,by rw[h2];exact hx⟩,λb=>?_⟩;constructor
  ·rintro⟨c',e',h⟩;cases e';rcases h with h|⟨Dd,Dl,h⟩
   ·exact⟨c,rfl,.inl h⟩
   ·rw[B2] at Dl;cases Dl;exact⟨c,rfl,.inr ⟨cs,hb,(h2 b).1 h⟩⟩
  ·rintro⟨c',e',h⟩;cases e';rcases h with h|⟨Dd,Dl,h⟩
   ·exact⟨c,rfl,.inl h⟩
   ·rw[hb] at Dl;cases Dl;exact⟨c,rfl,.inr ⟨cs,B2,(h2 b).2 h⟩⟩
 | .GJ _ _ _ _ _,h,_,F=>y9 h F.le λb hb=>⟨F.Dh b (RV h hb).1<| .inr hb,F.view b (RV h hb).1<| .inr hb⟩
 | .Qb _ _ _ _,⟨x,e,h⟩,_,F=>by
  subst e;exact⟨⟨x,rfl,VF h F.le λb hb=>⟨F.Dh b (Ha h hb).1<| .inr ⟨x,_,rfl,hb⟩,F.view b (Ha h hb).1<| .inr ⟨x,_,rfl,hb⟩⟩⟩,λ_=>Iff.rfl⟩
 | .DX l rc,⟨h,h2,h3⟩,_,F=>⟨⟨by rw[F.Dh l (lt_of_heap h)<| .inr rfl];exact h,by rw[F.view l (lt_of_heap h)<| .inr rfl];exact h2,h3⟩,λ_=>Iff.rfl⟩
 | .IX L seen,⟨r,m,es,sn,e,h1,h2,h3,h4,h5,h6⟩,_,F=>by
  subst e;have ho:(AJ.IX L seen).owns w (.pointer<|some ⟨r,0,none⟩) r:=⟨_,rfl,rfl⟩;exact⟨⟨r,m,es,sn,rfl,by rw[F.Dh r (lt_of_heap h1)<| .inr ho];exact h1,by rw[F.view r (lt_of_heap h1)<| .inr ho];exact h2,h3,F.le _ _ h4,mZ F.le h5,h6⟩,λ_=>Iff.rfl⟩
 | .win _ _ _ _,h,_,_=>⟨h,λ_=>Iff.rfl⟩
 | .Mf _ _ _,h,_,_=>⟨h,λ_=>Iff.rfl⟩
 | .EZ E pre post l,⟨g,c,cur,xs,e,hb,hc,ho,hn,hB⟩,_,F=>by
  subst e;have oc:(AJ.EZ E pre post l).owns w (.slice (some ⟨g,pre.length,none⟩) l.length c) g:=rfl;exact⟨⟨g,c,cur,xs,rfl,by rw[F.Dh g (lt_of_heap hb)<| .inr oc];exact hb,hc,Pt F.le ho,by rw[F.view g (lt_of_heap hb)<| .inr oc];exact hn,hB⟩,λ_=>Iff.rfl⟩
 | .HW T E l,⟨c,p,r,e,hb,hp,hn,hB,ho,hx⟩,_,F=>by
  subst e;have hlt:=lt_of_heap hb;have oc:(AJ.HW T E l).owns w (.pointer<|some ⟨c,0,none⟩) c:=⟨c,rfl,.inl rfl⟩;have op:∀b,r.ownBlock=some b->(AJ.HW T E l).owns w (.pointer<|some ⟨c,0,none⟩) b:=λb h=>⟨c,rfl,.inr ⟨p,r,hb,h⟩⟩
  have B2:w'.heap[c]? =some (.cells #[p,r] T (0,0)):=by rw[F.Dh c hlt<| .inr oc];exact hb
  have h1:=VF ho F.le λb h=>⟨F.Dh b (Ha ho h).1<| .inr<|op b h,F.view b (Ha ho h).1<| .inr<|op b h⟩
  refine⟨⟨c,p,r,rfl,B2,hp,by rw[F.view c hlt<| .inr oc];exact hn,hB,h1,hx⟩,λb=>?_⟩;constructor
  ·rintro⟨c',e',h⟩;cases e';rcases h with h|⟨p',r',Dl,h⟩
   ·exact⟨c,rfl,.inl h⟩
   ·exact⟨c,rfl,.inr ⟨p',r',by rw[hb,<-B2];exact Dl,h⟩⟩
  ·rintro⟨c',e',h⟩;cases e';rcases h with h|⟨p',r',Dl,h⟩
   ·exact⟨c,rfl,.inl h⟩
   ·exact⟨c,rfl,.inr ⟨p',r',by rw[B2,<-hb];exact Dl,h⟩⟩
 | .inv I,⟨h,e⟩,hi,F=>by
  have:n=I.n:=by rw[hi rfl,e]
  exact⟨⟨I.step h<|this▸F,e⟩,λ_=>Iff.rfl⟩
def AJ.Xs{s:AJ}(h:s.holds B a w H v)(F:Far B.lo (λb=>s.owns w v b) w H w' H'):s.holds B a w' H' v/\∀b,s.owns w' v b↔s.owns w v b:=
 AJ.Us h (λ_=>rfl) F
def AJ.ahG(he:Ext w H w' H'){s:AJ}(h:s.holds B a w H v):s.holds B a w' H' v:=(AJ.Xs h<|he.L4 _ _).1
def AJ.dh(he:Ext w H w' H'){s:AJ}(h:s.holds B a w H v)(b:Nat):s.owns w' v b↔s.owns w v b:=(AJ.Xs h<|he.L4 _ _).2 b
def Oi{t:Nat}(h:d≠t):AT (a.put (some d) v) t=AT a t:=by
 simp[AT,Act.put,Array.getElem?_setIfInBounds_ne h]
def Um(h:d<a.tmps.size):AT (a.put (some d) v) d=v:=by
 simp[AT,Act.put,h]
def TM{B:AX P}{a a':Act}{w:AK}{H:HV}:∀{ps:A3 Bk} {cs:A3 AO},(∀t∈QQ ps,AT a' t=AT a t)->IH B a w H ps cs->IH B a' w H ps cs
 |[],_,_,h=>h
 |p::l,_,e,⟨v,rest,e1,By,hv,hr⟩=>by
  cases p with
  |sm u=>exact⟨v,rest,e1,By,⟨by rw[e u (by simp[QQ])];exact hv.1,hv.2⟩,TM (λt ht=>e t (by simp[QQ,ht])) hr⟩
  |val _=>exact⟨v,rest,e1,By,hv,TM e hr⟩
  |any _ _=>exact⟨v,rest,e1,By,hv,TM e hr⟩
  |buf _ _ _=>exact⟨v,rest,e1,By,hv,TM e hr⟩
  |map _ _ _ _ _=>exact⟨v,rest,e1,By,hv,TM e hr⟩
def AJ.Oo{B:AX P}{a a':Act}{w:AK}{H:HV}{v:AO}:∀{s:AJ},(∀t∈s.Bn,AT a' t=AT a t)->s.holds B a w H v->s.holds B a' w H v
 | .val _,_,h=>h
 | .Kz _,_,h=>h
 | .own _ _,_,h=>h
 | .ptr t off,e,⟨b,h1,h2⟩=>⟨b,by rw[e t (by simp[AJ.Bn])];exact h1,h2⟩
 | .opt c s,e,h=>⟨λhc=>Oo (s:=s) e<|h.1 hc,h.2⟩
 | .same t,e,h=>by show v=_;rw[e t (by simp[AJ.Bn])];exact h
 | .JX t _ _,e,⟨b,len,cap,h1,h2⟩=>⟨b,len,cap,by rw[e t (by simp[AJ.Bn])];exact h1,h2⟩
 | .bpf t _,e,⟨b,len,cap,h1,h2⟩=>⟨b,len,cap,by rw[e t (by simp[AJ.Bn])];exact h1,h2⟩
 | .gone,_,h=>h
 | .buf _ _ _,_,h=>h
 | .NV _ _ _ _,_,h=>h
 | .Ca _ _ _,e,⟨c,cs,h1,h2,h3,h4,h5,h6⟩=>⟨c,cs,h1,h2,h3,h4,TM e h5,h6⟩
 | .GJ _ _ _ _ _,_,h=>h
 | .Qb _ _ _ _,_,h=>h
 | .inv _,_,h=>h
 | .SG t i,e,⟨x,h⟩=>⟨x,by rw[e t (by simp[AJ.Bn])];exact h⟩
 | .vec k us,e,h=>by
  have:us.map (AT a')=us.map (AT a):=List.map_congr_left e;show v=Zc a' k us;rw[show Zc a' k us=Zc a k us by simp only[Zc,this]];exact h
 | .Jh t _,e,h=>by show AT a' t=_;rw[e t (by simp[AJ.Bn])];exact h
 | .DX _ _,_,h=>h
 | .IX _ _,_,h=>h
 | .HW _ _ _,_,h=>h
 | .EZ _ _ _ _,_,h=>h
 | .win t _ _ _,e,⟨g,len,cap,c,h1,h2⟩=>⟨g,len,cap,c,by rw[e t (by simp[AJ.Bn])];exact h1,h2⟩
 | .Mf t _ _,e,⟨g,o,n,c,h1,h2⟩=>⟨g,o,n,c,by rw[e t (by simp[AJ.Bn])];exact h1,h2⟩
def J1(d:Nat)(Γ:Ctx):Bool:=Γ.all λp=>p.1 !=d&& !p.2.Bn.contains d
def Xd{A:Ctx}(h:J1 d A=true):∀p∈A,p.1≠d/\d∉p.2.Bn:=by
 intro p hp;have:=Cy.1 h p hp;simpa using this
def put_defers{d:A6 Tmp}:(a.put d v).defers=a.defers:=by cases d<;>rfl
def te{Γ:Ctx}(h:Sat w0 H0 N Γ a w H){s:AJ}(hd:d<N)(hf:J1 d Γ=true)(hl:d∉s.Bn)
 (hs:s.holds w0 a w H v)(hfr:∀b,s.owns w v b->∀q∈Γ,¬q.2.owns w (AT a q.1) b):Sat w0 H0 N ((d,s)::Γ) (a.put (some d) v) w H:=by
 have hd':d<a.tmps.size:=h.sz▸hd;have JT:∀p∈Γ,d≠p.1/\d∉p.2.Bn:=λp hp=>⟨λe=>(Xd hf p hp).1 e.symm,(Xd hf p hp).2⟩
 refine⟨by rw[put_defers];exact h.nd,by simp[Act.put,h.sz],h.below,h.Ed,h.sub,?_,?_,h.gl⟩
 ·intro p hp;rcases Ag.1 hp with e|hp
  ·subst e;simp only[Um hd'];exact AJ.Oo (λt ht=>Oi<|λe=>hl<|e▸ht) hs
  ·obtain⟨h1,h2⟩:=JT p hp;rw[Oi h1];exact AJ.Oo (λt ht=>Oi<|λe=>h2<|e▸ht)<|h.holds p hp
 ·intro p hp q hq hne b hb B2;rcases Ag.1 hp with e|hp<;>rcases Ag.1 hq with e'|hq
  ·subst e;subst e';exact hne rfl
  ·subst e;simp only[Um hd'] at hb;rw[Oi (JT q hq).1] at B2;exact hfr b hb q hq B2
  ·subst e';simp only[Um hd'] at B2;rw[Oi (JT p hp).1] at hb;exact hfr b B2 p hp hb
  ·rw[Oi (JT p hp).1] at hb;rw[Oi (JT q hq).1] at B2;exact h.sep p hp q hq hne b hb B2
def dZ{Γ:Ctx}(h:Sat w0 H0 N Γ a w H)(he:Ext w H w' H'):Sat w0 H0 N Γ a w' H':=by
 refine⟨h.nd.kept λD _ h1 h2=>⟨by rw[he.below.block D<|lt_of_heap h1];exact h1,by rw[he.Ed D<|lt_of_heap h1];exact h2⟩,h.sz,h.below.step he.below,λhv r hr hx=>?_,he.sub,?_,?_,h.gl.mono he.le⟩
 ·rw[he.Ed r<|K0 hr h.below.size,h.Ed hv r hr hx]
 ·intro p hp;exact AJ.ahG he<|h.holds p hp
 ·intro p hp q hq hne b hb B2;exact h.sep p hp q hq hne b ((AJ.dh he (h.holds p hp) b).1 hb)<|(AJ.dh he (h.holds q hq) b).1 B2
def RO{Γ:Ctx}(h:Sat w0 H0 N Γ a w H)(he:Ext w H w' H')
 {s:AJ}(hd:d<N)(hf:J1 d Γ=true)(hl:d∉s.Bn)(hs:s.holds w0 a w' H' v)(hfr:∀b,s.owns w' v b->w.heap.size<=b):
  Sat w0 H0 N ((d,s)::Γ) (a.put (some d) v) w' H':=
 te (dZ h he) hd hf hl hs λb hb q hq B2=>by
  have h1:=hfr b hb;have h2:=(AJ.IP (h.holds q hq)<|(AJ.dh he (h.holds q hq) b).1 B2).1;omega
def AJ.free:AJ->Bool
 | .own _ _=>false
 | .buf _ _ _=>false
 | .NV _ _ _ _=>false
 | .opt _ s=>s.free
 | .Ca _ _ _=>false
 | .GJ _ _ _ _ _=>false
 | .Qb _ _ _ _=>false
 | .inv _=>false
 | .DX _ _=>false
 | .IX _ _=>false
 | .HW _ _ _=>false
 | .EZ _ _ _ _=>false
 |_=>true
def AJ.free_spec{w:AK}{v:AO}{b:Nat}:∀{s:AJ},s.free=true-> ¬s.owns w v b
 | .val _,_,h=>h
 | .Kz _,_,h=>h
 | .ptr _ _,_,h=>h
 | .same _,_,h=>h
 | .JX _ _ _,_,h=>h
 | .bpf _ _,_,h=>h
 | .gone,_,h=>h
 | .Jh _ _,_,h=>h
 | .vec _ _,_,h=>h
 | .SG _ _,_,h=>h
 | .opt c s,e,h=>AJ.free_spec (s:=s) e h.2
 | .own _ _,e,_=>by cases e
 | .buf _ _ _,e,_=>by cases e
 | .NV _ _ _ _,e,_=>by cases e
 | .Ca _ _ _,e,_=>by cases e
 | .GJ _ _ _ _ _,e,_=>by cases e
 | .Qb _ _ _ _,e,_=>by cases e
 | .inv _,e,_=>by cases e
 | .DX _ _,e,_=>by cases e
 | .IX _ _,e,_=>by cases e
 | .HW _ _ _,e,_=>by cases e
 | .EZ _ _ _ _,e,_=>by cases e
 | .win _ _ _ _,_,h=>h
 | .Mf _ _ _,_,h=>h
def V4{Γ Ae:Ctx}{ds:A3 Deferred}(hs:Sat w0 H0 N Γ a w H)(hk:Kept w0 w')(hdr:GQ w w')
 (hold:w0.IF=false->∀r,r<w0.n-> ¬w0.X r->H' r=H r)(hsz:w.heap.size<=w'.heap.size)(hle:HV.le H H')(B0:∀r o,H' r=some o->w'.heap[r]? =some o)
 (FG:(∃p∈Ae,p.2.Eg=true)->∀b,b<w.heap.size->b<w0.lo->w'.heap[b]? =w.heap[b]? /\H' b=H b)
 (hp:∀p∈Ae,p∈Γ/\∀b,p.2.owns w (AT a p.1) b->w'.heap[b]? =w.heap[b]? /\H' b=H b)(hm:Marks w0 w' H' (ds++w0.ds)):Sat w0 H0 N Ae {a with defers:=ds} w' H':=by
 have L4:∀p∈Ae,Far (if p.2.Eg then w0.lo else 0) (λb=>p.2.owns w (AT a p.1) b) w H w' H':=λp h=>by
  have key:∀b,b<w.heap.size->(b<(if p.2.Eg then w0.lo else 0)\/p.2.owns w (AT a p.1) b)->w'.heap[b]? =w.heap[b]? /\H' b=H b:=λb hb h1=>by
   rcases h1 with h1|h1
   ·cases hi:p.2.Eg with
    |true=>rw[hi,if_pos rfl] at h1;exact FG ⟨p,h,hi⟩ b hb h1
    |false=>rw[hi] at h1;simp at h1
   ·exact(hp p h).2 b h1
  exact⟨hsz,hk.os.trans hs.below.os.symm,hk.tape.trans hs.below.tape.symm,hk.output.trans hs.below.output.symm,hdr,hle,λb hb h1=>(key b hb h1).1,λb hb h1=>(key b hb h1).2,B0⟩
 have hh:∀p∈Ae,p.2.holds w0 a w' H' (AT a p.1)/\∀b,p.2.owns w' (AT a p.1) b↔p.2.owns w (AT a p.1) b:=λp h=>AJ.Us (hs.holds p (hp p h).1) (λhi=>by rw[hi];rfl)<|L4 p h
 refine⟨hm,hs.sz,hk,λhv r hr hx=>(hold hv r hr hx).trans<|hs.Ed hv r hr hx,B0,?_,?_,hs.gl.mono hle⟩
 ·exact λp h=>AJ.Oo (a:=a) (λ_ _=>rfl) (hh p h).1
 ·exact λp h q h' hne b hb B2=>hs.sep p (hp p h).1 q (hp q h').1 hne b (((hh p h).2 b).1 hb)<|((hh q h').2 b).1 B2
def V5{sz:Nat}(h:Kq B w H E sz l v)(hm:∀b,v.ownBlock=some b->B'.Du b):Kq B' w H E sz l v:=by
 obtain⟨xs,h1,h2,h3⟩:=h;exact⟨xs,h1,h2,λb hb=>⟨(h3 b hb).1,hm b hb⟩⟩
def wT{B B':AX P}{w:AK}{H:HV}{Eb:Af}{sz:Nat}:∀{i:Nat} {l:A3 (Ty×Ck)} {es:A3 MapEntry},Ji B w H Eb sz i l es->(∀b,HC b l es->B'.Du b)->Ji B' w H Eb sz i l es
 |_,[],[],_,_=>trivial
 |_,[],_::_,h,_=>h.elim
 |_,(_,_)::_,[],h,_=>h.elim
 |i,(k,e)::l,x::xs,⟨hk,he,hb,hr⟩,hx=>by
  refine⟨hk,?_,hb,wT hr λb h=>hx b<| .inr h⟩;cases e with
  |val τ=>exact he
  |any=>trivial
  |buf l=>exact V5 he λb h=>hx b<| .inl h
def wj{sz:Nat}{E7:A3 (Ty×Ck)}(h:QS B w H Eb sz E7 v)(hm:∀b,Oz w E7 v b->B'.Du b):QS B' w H Eb sz E7 v:=by
 obtain⟨r,es,e,hr,hn,_,ho,hs⟩:=h;subst e;exact⟨r,es,rfl,hr,hn,hm r<| .inl rfl,wT ho λb h=>hm b<| .inr ⟨r,es,rfl,hr,h⟩,hs⟩
def wR{B B':AX P}{a:Act}{w:AK}{H:HV}:∀{ps:A3 Bk} {cs:A3 AO},IH B a w H ps cs->(∀b,Fh w b ps cs->B'.Du b)->IH B' a w H ps cs
 |[],_,h,_=>h
 |p::l,_,⟨v,rest,e,By,hv,hr⟩,k=>by
  subst e;obtain⟨e1,e2⟩:=Pu (rest:=rest) By;simp only[Fh,e1,e2] at k;refine⟨v,rest,rfl,By,?_,wR hr λb h=>k b<| .inr h⟩;cases p with
  |val _=>exact hv
  |any _ _=>exact hv
  |sm _=>exact hv
  |buf _ _ _=>exact V5 hv λb h=>k b<| .inl h
  |map _ _ _ _ _=>exact wj hv λb h=>k b<| .inl h
def AJ.R6{B B':AX P}{a:Act}{w:AK}{H:HV}{v:AO}:∀{s:AJ},s.Eg=false->s.holds B a w H v->(∀b,s.owns w v b->B'.Du b)->s.holds B' a w H v
 | .val _,_,h,_=>h
 | .Kz _,_,h,_=>h
 | .own _ _,_,⟨b,x,e,h1,h2,h3,_⟩,k=>⟨b,x,e,h1,h2,h3,k b ⟨_,e,rfl⟩⟩
 | .ptr _ _,_,h,_=>h
 | .opt c s,hi,h,k=>⟨λhc=>AJ.R6 (s:=s) hi (h.1 hc) λb hb=>k b ⟨hc,hb⟩,h.2⟩
 | .same _,_,h,_=>h
 | .JX _ _ _,_,h,_=>h
 | .bpf _ _,_,h,_=>h
 | .gone,_,h,_=>h
 | .buf _ _ _,_,h,k=>V5 h k
 | .NV _ _ _ _,_,h,k=>V5 h k
 | .Ca _ _ _,_,⟨c,cs,e,hb,hn,_,ho,hs,hx⟩,k=>⟨c,cs,e,hb,hn,k c ⟨c,e,.inl rfl⟩,wR ho λb h=>k b ⟨c,e,.inr ⟨cs,hb,h⟩⟩,hs,hx⟩
 | .GJ _ _ _ _ _,_,h,k=>wj h k
 | .Qb _ _ _ _,_,⟨x,e,h⟩,k=>⟨x,e,V5 h λb hb=>k b ⟨x,_,e,hb⟩⟩
 | .inv _,hi,_,_=>by cases hi
 | .Jh _ _,_,h,_=>h
 | .vec _ _,_,h,_=>h
 | .SG _ _,_,h,_=>h
 | .DX l _,_,⟨h1,h2,_⟩,k=>⟨h1,h2,k l rfl⟩
 | .IX _ _,_,⟨r,m,es,sn,e,h1,h2,_,h4⟩,k=>⟨r,m,es,sn,e,h1,h2,k r ⟨_,e,rfl⟩,h4⟩
 | .win _ _ _ _,_,h,_=>h
 | .Mf _ _ _,_,h,_=>h
 | .EZ _ _ _ _,_,⟨g,c,cur,xs,e,hb,hc,ho,hn,_⟩,k=>⟨g,c,cur,xs,e,hb,hc,ho,hn,k g (by rw[e];rfl)⟩
 | .HW _ _ _,_,⟨c,p,r,e,hb,hp,hn,_,ho,hx⟩,k=>⟨c,p,r,e,hb,hp,hn,k c ⟨c,e,.inl rfl⟩,V5 ho λb h=>k b ⟨c,e,.inr ⟨p,r,hb,h⟩⟩,hx⟩
def AJ.Oq{B:AX P}{a:Act}{w:AK}{H:HV}{v:AO}{b:Nat}:∀{s:AJ},s.Eg=false->s.holds B a w H v->s.owns w v b->B.Du b
 | .val _,_,_,h=>h.elim
 | .Kz _,_,_,h=>h.elim
 | .ptr _ _,_,_,h=>h.elim
 | .same _,_,_,h=>h.elim
 | .JX _ _ _,_,_,h=>h.elim
 | .bpf _ _,_,_,h=>h.elim
 | .gone,_,_,h=>h.elim
 | .Jh _ _,_,_,h=>h.elim
 | .vec _ _,_,_,h=>h.elim
 | .SG _ _,_,_,h=>h.elim
 | .own T τ,_,⟨c,x,e,hb,hx,hn,hB⟩,⟨ad,e',h⟩=>by
  subst e;cases e';cases h;exact hB
 | .buf _ _ _,_,h,k=>(Ha h k).2.1
 | .NV _ _ _ _,_,h,k=>(Ha h k).2.1
 | .Ca T _ ps,_,⟨c,cs,e,hb,hn,hB,ho,hs,hx⟩,⟨c',e',h⟩=>by
  subst e;cases e';rcases h with h|⟨Dd,B2,h⟩
  ·subst h;exact hB
  ·rw[hb] at B2;cases B2;exact(Pp ho h).2.1
 | .GJ _ _ _ _ _,_,h,k=>(RV h k).2.1
 | .Qb _ _ _ _,_,⟨x,e,h⟩,⟨x',i',e',k⟩=>by
  rw[e] at e';cases e';exact(Ha h k).2.1
 | .opt c s,hi,h,⟨hc,k⟩=>AJ.Oq (s:=s) hi (h.1 hc) k
 | .inv _,hi,_,_=>by cases hi
 | .DX l _,_,⟨_,_,h3⟩,k=>by
  have k:b=l:=k;subst k;exact h3
 | .IX _ _,_,⟨r,m,es,sn,e,_,_,h3,_⟩,⟨ad,e',h⟩=>by
  subst e;cases e';cases h;exact h3
 | .win _ _ _ _,_,_,h=>h.elim
 | .Mf _ _ _,_,_,h=>h.elim
 | .EZ _ _ _ _,_,⟨g,c,cur,xs,e,hb,_,_,hn,hB⟩,h=>by
  subst e;cases h;exact hB
 | .HW _ _ _,_,⟨c,p,r,e,hb,_,_,hB,ho,_⟩,⟨c',e',h⟩=>by
  subst e;cases e';rcases h with h|⟨p',r',B2,h⟩
  ·subst h;exact hB
  ·have e2:=hb.symm.trans B2;simp at e2;obtain⟨rfl,rfl⟩:=e2;exact(Ha ho h).2.1
end
section
variable[D:DR]
variable{d:Nat}
def look:Ctx->Nat->A6 AJ
 |[],_=>none
 |(k,s)::Γ,t=>match Nat.beq k t with
  |true=>some s
  |false=>look Γ t
def Au:∀{Γ:Ctx} {t:Nat} {s:AJ},look Γ t=some s->(t,s)∈Γ
 |[],_,_,h=>by simp[look] at h
 |(k,s')::Γ,t,s,h=>by
  simp only[look] at h;cases hb:Nat.beq k t
  ·rw[hb] at h;exact Bi _<|Au h
  ·rw[hb] at h;have:=Dj hb;simp at h;subst this;subst h;simp
def AJ.LO(s:AJ)(d:Nat):Bool:=s.Bn.any λt=>Nat.beq t d
def Xk{s:AJ}(h:s.LO d=false):d∉s.Bn:=λhm=>by
 have:=VY.1 h d hm;simp at this
def aff{s:AJ}(h:d∉s.Bn):s.LO d=false:=by
 refine VY.2 λt ht=>?_
 simp only[fU];cases hb:Nat.beq t d
 ·rfl
 ·exact absurd (Dj hb▸ht) h
def del(d:Nat):Ctx->Ctx
 |[]=>[]
 |p::Γ=>bif Nat.beq p.1 d||p.2.LO d then del d Γ else p::del d Γ
def M3{d:Nat}:∀{Γ:Ctx},∀p∈del d Γ,p∈Γ
 |[],p,h=>by simp[del] at h
 |q::Γ,p,h=>by
  simp only[del] at h;cases hb:(Nat.beq q.1 d||q.2.LO d)
  ·rw[hb] at h;rcases Ag.1 h with e|h
   ·simp[e]
   ·exact Bi _<|M3 p h
  ·rw[hb] at h;exact Bi _<|M3 p h
def Ox{d:Nat}:∀{Γ:Ctx},J1 d (del d Γ)=true
 |[]=>rfl
 |q::Γ=>by
  simp only[del];cases hb:(Nat.beq q.1 d||q.2.LO d)
  ·simp only[B8];have ih:=Ox (d:=d) (Γ:=Γ);simp only[J1,N9,BU] at ih⊢;refine⟨?_,ih⟩;simp at hb;refine⟨by simpa using Nat.ne_of_beq_eq_false hb.1,?_⟩;simpa using Xk hb.2
  ·simpa using Ox (d:=d) (Γ:=Γ)
inductive E2(Γ:Ctx):A3 Nat->Ctx->Prop where
 |nil:E2 Γ [] []
 |cons {t:Nat} {s:AJ} {ts:A3 Nat} {Ae:Ctx} (h:look Γ t=some s) (r:E2 Γ ts Ae):E2 Γ (t::ts) ((t,s)::Ae)
def E2.sub{Γ:Ctx}{ts:A3 Nat}{Ae:Ctx}(h:E2 Γ ts Ae):∀p∈Ae,p∈Γ:=by
 induction h with
 |nil=>simp
 |cons h _ ih=>
  intro p hp;rcases Ag.1 hp with e|hp
  ·subst e;exact Au h
  ·exact ih p hp
def E2.keys{Γ:Ctx}{ts:A3 Nat}{Ae:Ctx}(h:E2 Γ ts Ae):∀p∈Ae,p.1∈ts:=by
 induction h with
 |nil=>simp
 |cons h _ ih=>
  intro p hp;rcases Ag.1 hp with e|hp
  ·subst e;simp
  ·exact Bi _<|ih p hp
def Aq(P:Bs)(Γ:Ctx)(o:Oper)(s:AJ):Prop:=
 ∀(w0:AX P) (H0:HV) (N:Nat) (a:Act) (w:AK) (H:HV),Sat w0 H0 N Γ a w H->∀(K:Act->AK->Prop) (Q:Exit->Act->AK->Prop),
  (∀v w' H',Ext w H w' H'->s.holds w0 a w' H' v->(∀b,s.owns w' v b->w.heap.size<=b)->K (a.put o.dst v) w')->o.wp P a w K Q
def Step(P:Bs)(N:Nat)(ops:Aw Oper)(o:Oper)(Γ Ae:Ctx):Prop:=
 ∀(w0:AX P) (H0:HV) (a:Act) (w:AK) (H:HV),Sat w0 H0 N Γ a w H->∀(K:Act->AK->Prop) (Q:Exit->Act->AK->Prop),
  (∀a' w' H',Sat w0 H0 N Ae a' w' H'->K a' w')->if Region.wanted o (yielded ops a.tmps) then o.wp P a w K Q else K (a.put o.dst undef) w
end
section
variable[D:DR]
variable{P:Program}{N:Nat}{ops:Array Oper}{Γ Ae EM T1:Ctx}
variable{d:Nat}{s:AJ}{j dj:Nat}{b:Bool}{H0:HV}{a:Act}{H:HV}{e want:Bool}
def Step.pure{o:Oper}(h:Aq P Γ o s)(hg:o.guard=none)(hd:o.dst=some d)(hN:d<N)(hf:J1 d Γ=true)(hl:s.LO d=false):
  Step P N ops o Γ ((d,s)::Γ):=by
 intro w0 H0 a w H hs K Q k;simp only[Region.wanted,hg,if_true];refine h w0 H0 N a w H hs K Q λv w' H' he hv hb=>?_
 rw[hd];exact k _ _ _<|RO hs he hN hf (Xk hl) hv hb
def Step.over{o:Oper}(h:Aq P Γ o s)(hg:o.guard=none)(hd:o.dst=some d)(hN:d<N)(hl:s.LO d=false):
  Step P N ops o Γ ((d,s)::del d Γ):=by
 intro w0 H0 a w H hs K Q k;simp only[Region.wanted,hg,if_true];refine h w0 H0 N a w H hs K Q λv w' H' he hv hb=>?_
 rw[hd];exact k _ _ _<|RO (hs.weaken M3) he hN Ox (Xk hl) hv hb
def gd(b:Bool):Bool->Bool
 |true=>b
 |false=> !b
def af6{w0:AX P}{w:AK}(hs:Sat w0 H0 N Γ a w H)(hj:(ops[j]?).bind (·.dst)=some dj)(hl:look Γ dj=some (.val<|Ar b))(hN:dj<N):
  yielded ops a.tmps j=some b:=by
 have h:=hs.holds _<|Au hl
 have h:AT a dj= .bool b:=h;have hlt:dj<a.tmps.size:=hs.sz▸hN;simp only[yielded,hj,Option.bind_some];simp[AT,hlt] at h;simp[hlt,h]
def agG{o:Oper}{w0:AX P}{w:AK}(hs:Sat w0 H0 N Γ a w H)(hg:o.guard=some (j,want))(hj:(ops[j]?).bind (·.dst)=some dj)(hl:look Γ dj=some (.val<|Ar b))(hN:dj<N):
  Region.wanted o (yielded ops a.tmps)=gd b want:=by
 simp only[Region.wanted,hg,af6 hs hj hl hN];cases b<;>cases want<;>rfl
inductive Ja(Γ:Ctx)(e:Bool):Ctx->Prop where
 |nil:Ja Γ e []
 |v {t:Nat} {s:AJ} {Ae:Ctx} (h:look Γ t=some s) (r:Ja Γ e Ae):Ja Γ e ((t,s)::Ae)
 |o {t:Nat} {s:AJ} {c:Bool} {Ae:Ctx} (h:look Γ t=some (.opt c s)) (k:e=true->c=true) (r:Ja Γ e Ae):Ja Γ e ((t,s)::Ae)
def Ja.mem{Γ Ae:Ctx}(h:Ja Γ e Ae)(he:e=true):∀p∈Ae,p∈Γ\/(p.1,AJ.opt true p.2)∈Γ:=by
 induction h with
 |nil=>simp
 |v h _ ih=>
  intro p hp;rcases Ag.1 hp with e|hp
  ·subst e;exact .inl<|Au h
  ·exact ih p hp
 |o h k _ ih=>
  intro p hp;rcases Ag.1 hp with e|hp
  ·subst e;have:=k he;subst this;exact .inr<|Au h
  ·exact ih p hp
def Ja.sat{Γ Ae:Ctx}(h:Ja Γ e Ae)(he:e=true){w0:AX P}{N:Nat}{w:AK}(hs:Sat w0 H0 N Γ a w H):Sat w0 H0 N Ae a w H:=by
 have key:∀p∈Ae,∃s,(p.1,s)∈Γ/\(s.holds w0 a w H (AT a p.1)->p.2.holds w0 a w H (AT a p.1))/\∀v b,p.2.owns w v b->s.owns w v b:=by
  intro p hp;rcases h.mem he p hp with h|h
  ·exact⟨p.2,h,id,λ_ _ h=>h⟩
  ·exact⟨_,h,λk=>k.1 rfl,λv b hb=>⟨rfl,hb⟩⟩
 refine⟨hs.nd,hs.sz,hs.below,hs.Ed,hs.sub,?_,?_,hs.gl⟩
 ·intro p hp;obtain⟨s,h1,h2,_⟩:=key p hp;exact h2<|hs.holds _ h1
 ·intro p hp q hq hne b hb B2;obtain⟨s,h1,_,h3⟩:=key p hp;obtain⟨s',h1',_,h3'⟩:=key q hq;exact hs.sep _ h1 _ h1' hne b (h3 _ _ hb)<|h3' _ _ B2
def opO{AY:Ctx}{o:Oper}(ho:Ja Γ e AY)(h:e=true->Aq P AY o s):e=true->Aq P Γ o s:=
 λhe w0 H0 N a w H hs K Q k=>h he w0 H0 N a w H (ho.sat he hs) K Q λv w' H' hx hv hb=>k v w' H' hx hv hb
structure Wf(ops:Aw Oper)(N:Nat)(Γ:Ctx)(o:Oper)(e:Bool):Prop where
 w:∀{P':Bs} (w0:AX P') (H0:HV) (a:Act) (w:AK) (H:HV),Sat w0 H0 N Γ a w H->Region.wanted o (yielded ops a.tmps)=e
def Wf.v{o:Oper}(hg:o.guard=some (j,want))(hj:(ops[j]?).bind (·.dst)=some dj)(hl:look Γ dj=some (.val<|Ar b))(hN:dj<N):Wf ops N Γ o (gd b want):=
 ⟨λ_ _ _ _ _ hs=>agG hs hg hj hl hN⟩
def Wf.o{o:Oper}{j dj:Nat}{b c want:Bool}(hg:o.guard=some (j,want))(hj:(ops[j]?).bind (·.dst)=some dj)(hl:look Γ dj=some (.opt c<| .val<|Ar b))(hN:dj<N):Wf ops N Γ o (c&&gd b want):=
 ⟨λ_ _ a _ _ hs=>by
  have h:=hs.holds _<|Au hl
  have hlt:dj<a.tmps.size:=hs.sz▸hN;cases c
  ·have e:AT a dj=undef:=h.2 rfl;simp[AT,hlt] at e;have:yielded ops a.tmps j=none:=by simp[yielded,hj,hlt,e,undef]
   simp[Region.wanted,hg,this]
  ·have e:AT a dj= .bool b:=h.1 rfl;simp[AT,hlt] at e;have:yielded ops a.tmps j=some b:=by simp[yielded,hj,hlt,e]
   simp only[Region.wanted,hg,this,JO];cases b<;>cases want<;>rfl⟩
def Step.guarded{o:Oper}(hgd:Wf ops N Γ o e)
 (h:e=true->Aq P Γ o s)(hd:o.dst=some d)(hN:d<N)(hf:J1 d Γ=true)(hl:s.LO d=false):Step P N ops o Γ ((d,.opt e s)::Γ):=by
 intro w0 H0 a w H hs K Q k;rw[hgd.w w0 H0 a w H hs];have hl':d∉(AJ.opt e s).Bn:=Xk (s:=s) hl;cases hb:e
 ·simp only[TX,if_false];rw[hd];subst hb;exact k _ _ _ (RO hs (Ext.refl hs.sub) hN hf hl' ⟨(λe=>by cases e),λ_=>rfl⟩ (λc e=>by cases e.1))
 ·simp only[if_true];subst hb;refine h rfl w0 H0 N a w H hs K Q λv w' H' he hv hfr=>?_
  rw[hd];exact k _ _ _ (RO hs he hN hf hl' ⟨(λ_=>hv),(λe=>by cases e)⟩<|λc e=>hfr c e.2)
def Td(o:Oper):A3 Edge:=o.after.toList.filter<|Region.binds .any
def OG(ops:Aw Oper)(av:A3 (A3 Nat)):Bool:=
 (List.range ops.size).all λi=>match ops[i]? with
  |none=>false
  |some o=>((Td o).all λe=>decide<|e.on<i)&&
   (av.getD i []).all λj=>(Td o).any λe=>e.on==j||(av.getD e.on []).contains j
def QE(ops:Aw Oper)(k:Nat)(av:A3 (A3 Nat)):Bool:=
 decide (k<=ops.size)&&(List.range ops.size).all λi=>decide (i<k)||(List.range i).all λj=>(av.getD i []).contains j
def meets(x:A3 (Nat×A3 Nat))(l:A3 Nat):Bool:=x.any λp=>l.contains p.1
def SX(k:Nat)(kl:A3 (A3<|Nat×A3 Nat))(DV:A3 (A3 Nat))(DU:A3 Bool)(L:A3 Nat)(av:A3 (A3 Nat)):Bool:=
 ((List.range k).all λj=>(List.range j).all λi=>
  (!(meets (kl.getD i []) (DV.getD j [])||meets (kl.getD i []) ((kl.getD j []).map (·.1))||meets (kl.getD j []) (DV.getD i [])))||(av.getD j []).contains i)&&
 ((List.range k).all λj=> !(DU.getD j true)||(!(meets ((kl.getD j []).take 1) L)&&(List.range k).all λi=>(kl.getD i []).all λp=>p.2.all λt=>
  !(meets ((kl.getD j []).take 1) [t])||(i !=j&&(meets (kl.getD j []) [p.1]||(av.getD i []).contains j||(av.getD j []).any λm=>decide (i<m)&&meets (kl.getD m []) [p.1]))||(i==j&& !(meets ((kl.getD j []).take 1) [p.1]))))
def O0:Ctx->A3 Nat
 |[]=>[]
 |p::Γ=>p.2.Bn++O0 Γ
def tt:∀{Γ:Ctx} {q:Nat×AJ} {t:Nat},q∈Γ->t∈q.2.Bn->t∈O0 Γ
 |p::Γ,q,t,h,e=>by
  rcases Ag.1 h with h|h
  ·subst h;simp[O0,e]
  ·have:=tt h e;simp[O0,this]
def B4(d:Nat):Ctx->Ctx
 |[]=>[]
 |p::Γ=>bif Nat.beq p.1 d then B4 d Γ else p::B4 d Γ
def Cq{d:Nat}:∀{Γ:Ctx},∀p∈B4 d Γ,p∈Γ/\p.1≠d
 |[],p,h=>by simp[B4] at h
 |q::Γ,p,h=>by
  simp only[B4] at h;cases hb:Nat.beq q.1 d
  ·rw[hb] at h;rcases Ag.1 h with e|h
   ·subst e;exact⟨by simp,Nat.ne_of_beq_eq_false hb⟩
   ·exact⟨Bi _ (Cq p h).1,(Cq p h).2⟩
  ·rw[hb] at h;exact⟨Bi _ (Cq p h).1,(Cq p h).2⟩
def Ov{d:Nat}:∀{Γ:Ctx} {p:Nat×AJ},p∈Γ->p.1≠d->p∈B4 d Γ
 |q::Γ,p,h,hn=>by
  simp only[B4];rcases Ag.1 h with e|h
  ·subst e;cases hb:Nat.beq p.1 d
   ·simp
   ·exact absurd (Dj hb) hn
  ·have:=Ov h hn;cases Nat.beq q.1 d
   ·exact Bi _ this
   ·exact this
def PY(P:Bs)(N:Nat)(ops:Aw Oper)(AY:Ctx)(o:Oper)(t:Nat)(s:AJ):Prop:=
 ∀Dx:Ctx,(∀q∈AY,q∈Dx)->Step P N ops o Dx ((t,s)::B4 t Dx)
def j8(ks:A3 Nat)(Γ:Ctx):Ctx:=Γ.filter λq=> !ks.contains q.1
def Y5{ks:A3 Nat}{Γ:Ctx}{q:Nat×AJ}:q∈j8 ks Γ↔q∈Γ/\q.1∉ks:=by simp[j8]
def Pa(P:Bs)(N:Nat)(ops:Aw Oper)(AY:Ctx)(o:Oper)(t d:Nat)(s:AJ):Prop:=
 ∀Dx:Ctx,(∀q∈AY,q∈Dx)->Step P N ops o Dx ((d,s)::del d (B4 t Dx))
def j9(P:Bs)(N:Nat)(ops:Aw Oper)(AY:Ctx)(o:Oper)(t:Nat)(s':AJ)(d:Nat)(s:AJ):Prop:=
 ∀Dx:Ctx,(∀q∈AY,q∈Dx)->Step P N ops o Dx ((d,s)::(t,s')::del d (B4 t Dx))
def ab8(P:Bs)(N:Nat)(ops:Aw Oper)(put:Bool)(c AY:Ctx)(o:Oper):Prop:=∀Dx:Ctx,(∀q∈AY,q∈Dx)->(put=true->∀q∈Dx,q.1∉c.map (·.1)->∀p∈c.take 1,p.1∉q.2.Bn)->(put=true->∀q∈c.take 1,∀p∈c.take 1,p.1∉q.2.Bn)->∃Ae:Ctx,Step P N ops o Dx Ae/\∀q,q∈c++j8 (c.map (·.1)) Dx->q∈Ae
inductive EV(P:Bs)(N:Nat)(ops:Aw Oper)(Γ:Ctx):A3 Ctx->A3 Oper->A3 (A3 Nat)->A3 Bool->A3 Ctx->Prop where
 |nil {acc:A3 Ctx}:EV P N ops Γ acc [] [] [] acc
 |gen {acc S:A3 Ctx} {AY c:Ctx} {o:Oper} {l:A3 Oper} {ts:A3 Nat} {DV:A3 (A3 Nat)} {put:Bool} {DU:A3 Bool}
   (hs:E2 (acc.flatten++Γ) ts AY) (h:ab8 P N ops put c AY o) (r:EV P N ops Γ (c::acc) l DV DU S):EV P N ops Γ acc (o::l) (ts::DV) (put::DU) S
def aen{A B:Ctx}{t:Nat}(h:look (A++B) t=some s):look A t=some s\/((∀q∈A,q.1≠t)/\look B t=some s):=by
 induction A with
 |nil=>exact .inr ⟨(λq hq=>by cases hq),h⟩
 |cons p A ih=>
  obtain⟨k,s'⟩:=p;simp only[Q9,look] at h⊢;cases hb:Nat.beq k t
  ·rw[hb] at h;rcases ih h with h|⟨h1,h2⟩
   ·exact .inl h
   ·refine .inr ⟨λq hq=>?_,h2⟩;rcases Ag.1 hq with e|hq
    ·subst e;exact Nat.ne_of_beq_eq_false hb
    ·exact h1 q hq
  ·rw[hb] at h;exact .inl h
def At(Γ:Ctx)(S:A3 Ctx)(i:Nat)(q:Nat×AJ):Prop:=
 (∃j c,j<i/\S[j]? =some c/\q∈c/\∀j' c',j<j'->j'<i->S[j']? =some c'->∀q'∈c',q'.1≠q.1)\/(q∈Γ/\∀j c',j<i->S[j]? =some c'->∀q'∈c',q'.1≠q.1)
def lU{Γ:Ctx}{t:Nat}{s:AJ}{S:A3 Ctx}:∀{acc:A3 Ctx},(∀j,j<acc.length->S[j]? =acc.reverse[j]?)->look (acc.flatten++Γ) t=some s->At Γ S acc.length (t,s)
 |[],_,h=> .inr ⟨Au (by simpa using h),λj c' hj=>by simp at hj⟩
 |c::acc,hS,h=>by
  have pX:S[acc.length]? =some c:=by rw[hS _ (by simp)];simp
  rw[List.flatten_cons,Gw] at h;rcases aen h with h|⟨h1,h2⟩
  ·exact .inl ⟨acc.length,c,by simp,pX,Au h,λj' c' h3 h4=>by simp at h4;omega⟩
  ·have ih:=lU (acc:=acc) (λj hj=>by
    rw[hS j (by simp;omega),List.reverse_cons,IQ (by simpa using hj)]) h2
   rcases ih with⟨j,c0,k1,k2,k3,k4⟩|⟨k1,k2⟩
   ·refine .inl ⟨j,c0,by simp;omega,k2,k3,λj' c' h3 h4 h5=>?_⟩;simp at h4;by_cases e:j'=acc.length
    ·subst e;rw[pX] at h5;cases h5;exact h1
    ·exact k4 j' c' h3 (by omega) h5
   ·refine .inr ⟨k1,λj' c' h4 h5=>?_⟩;simp at h4;by_cases e:j'=acc.length
    ·subst e;rw[pX] at h5;cases h5;exact h1
    ·exact k2 j' c' (by omega) h5
structure zk(P:Bs)(N:Nat)(ops:Aw Oper)(Γ:Ctx)(ts:A3 Nat)(put:Bool)(S:A3 Ctx)(i:Nat)(o:Oper)(c:Ctx):Prop where
 exec:∃AY:Ctx,ab8 P N ops put c AY o/\∀q∈AY,q.1∈ts/\At Γ S i q
def E2.looks{Γ:Ctx}{ts:A3 Nat}{Ae:Ctx}(h:E2 Γ ts Ae):∀p∈Ae,look Γ p.1=some p.2:=by
 induction h with
 |nil=>simp
 |cons h _ ih=>
  intro p hp;rcases Ag.1 hp with e|hp
  ·subst e;exact h
  ·exact ih p hp
def wM{Dx:Ctx}(h:∀q∈Dx,q.1≠d->d∉q.2.Bn):J1 d (B4 d Dx)=true:=by
 simp only[J1,Cy,BU,LB,ne_eq];exact λq hq=>⟨(Cq q hq).2,by simpa using h q (Cq q hq).1 (Cq q hq).2⟩
def Sat.alj{P:Bs}{w0:AX P}{w:AK}(hs:Sat w0 H0 N Γ a w H)(t:Nat):Sat w0 H0 N ((t,.gone)::Γ) a w H:=by
 refine⟨hs.nd,hs.sz,hs.below,hs.Ed,hs.sub,?_,?_,hs.gl⟩
 ·intro p hp;rcases Ag.1 hp with e|hp
  ·subst e;trivial
  ·exact hs.holds p hp
 ·intro p hp q hq hne b hb B2;rcases Ag.1 hp with e|hp
  ·subst e;exact hb.elim
  ·rcases Ag.1 hq with e|hq
   ·subst e;exact B2.elim
   ·exact hs.sep p hp q hq hne b hb B2
def Step.gone{o:Oper}(h:Step P N ops o Γ Ae)(t:Nat):Step P N ops o Γ ((t,.gone)::Ae):=
 λw0 H0 a w H hs K Q k=>h w0 H0 a w H hs K Q λa' w' H' CG=>k a' w' H'<|CG.alj t
def Step.aaL{o:Oper}(h:Step P N ops o Γ Ae):∀gs:A3 Nat,Step P N ops o Γ ((gs.map λu=>(u,AJ.gone))++Ae)
 |[]=>h
 |u::gs=>(Step.aaL h gs).gone u
def oD{Dx:Ctx}{p q:Nat×AJ}(h:q∈[p]++j8 ([p].map (·.1)) Dx):q∈p::B4 p.1 Dx:=by
 rcases BR.1 h with h|h
 ·rw[Be.1 h];simp
 ·obtain⟨h1,h2⟩:=Y5.1 h;exact Bi _ (Ov h1 (by simpa using h2))
def RU{d:Nat}:∀{Γ:Ctx} {p:Nat×AJ},p∈Γ->p.1≠d->d∉p.2.Bn->p∈del d Γ
 |q::Γ,p,h,hn,hl=>by
  simp only[del];have hq:(Nat.beq p.1 d||p.2.LO d)=false:=by
   rw[LL];exact⟨by cases hb:Nat.beq p.1 d;rfl;exact absurd (Dj hb) hn,aff hl⟩
  rcases Ag.1 h with e|h
  ·subst e;rw[hq];simp
  ·have:=RU h hn hl;cases(Nat.beq q.1 d||q.2.LO d)
   ·exact Bi _ this
   ·exact this
def EV.at_{acc:A3 Ctx}{l:A3 Oper}{DV:A3 (A3 Nat)}{DU:A3 Bool}{S:A3 Ctx}(h:EV P N ops Γ acc l DV DU S):
  (∃S',S=S'++acc/\S'.length=l.length)/\DV.length=l.length/\DU.length=l.length/\∀(i:Nat) (o:Oper) (ts:A3 Nat) (put:Bool),l[i]? =some o->DV[i]? =some ts->DU[i]? =some put->
   ∃p,S.reverse[acc.length+i]? =some p/\zk P N ops Γ ts put S.reverse (acc.length+i) o p:=by
 have step:∀{acc:A3 Ctx} {c:Ctx} {l:A3 Oper} {S:A3 Ctx},(∃S',S=S'++c::acc/\S'.length=l.length)->
   (∃S',S=S'++acc/\S'.length=l.length+1)/\S.reverse[acc.length]? =some c/\∀j,j<acc.length->S.reverse[j]? =acc.reverse[j]? :=by
  rintro acc c l S ⟨S',rfl,hl⟩;refine⟨⟨S'++[c],by simp,by simp[hl]⟩,by simp,λj hj=>?_⟩;simp only[List.reverse_append,List.reverse_cons,Gw];rw[IQ (by simpa using hj)]
 induction h with
 |nil=>exact⟨⟨[],by simp⟩,rfl,rfl,λi o _ _ h=>by simp at h⟩
 | @gen acc S AY c o l ts DV put DU hs h r ih=>
  obtain⟨h1,h2,h3,h4⟩:=ih;obtain⟨k1,k2,k3⟩:=step h1;refine⟨by simpa using k1,by simp[h2],by simp[h3],?_⟩;intro i o' ts' aqb hi hn hp;cases i with
  |zero=>
   simp at hi hn hp;subst hi;subst hn;subst hp;exact⟨c,by simpa using k2,⟨AY,h,λq hq=>⟨hs.keys q hq,by simpa using lU k3 (hs.looks q hq)⟩⟩⟩
  |succ i=>
   simp at hi hn hp;obtain⟨p,hp1,hp2⟩:=h4 i o' ts' aqb hi hn hp;have e:acc.length+(i+1)=(c::acc).length+i:=by simp;omega
   rw[e];exact⟨p,hp1,hp2⟩
end
section
variable[D:DR]
variable{P:Program}{N:Nat}{ops:Array Oper}{Γ Ae EM T1:Ctx}
variable{acc S:List Ctx}{Γ AY:Ctx}{o:Oper}{l:List Oper}{ts:List Nat}{DV:List (List Nat)}{DU:List Bool}{t d u:Nat}{s s' su:AJ}{e:Bool}(gs:List Nat)(hs:E2 (acc.flatten++Γ) ts AY)
include hs
def EV.cons(h:Aq P AY o s)(hg:o.guard=none)(hd:o.dst=some d)(hN:d<N)(r:EV P N ops Γ ([(d,s)]::acc) l DV DU S):EV P N ops Γ acc (o::l) (ts::DV) (true::DU) S:=by
 refine .gen hs (λDx B0 JT ZS=>?_) r;refine⟨(d,s)::B4 d Dx,?_,λq hq=>oD hq⟩;intro w0 H0 a w H B1 K Q kk;simp only[Region.wanted,hg,if_true];refine h w0 H0 N a w H (B1.weaken B0) K Q λv w' H' he hv hb=>?_
 rw[hd];exact kk _ _ _ (RO (B1.weaken λq hq=>(Cq q hq).1) he hN (wM λq hq hn=>JT rfl q hq (by simpa using hn) (d,s) (by simp)) (ZS rfl (d,s) (by simp) (d,s) (by simp)) hv hb)
def EV.guarded(hgd:Wf ops N AY o e)(h:e=true->Aq P AY o s)(hd:o.dst=some d)(hN:d<N)(r:EV P N ops Γ ([(d,.opt e s)]::acc) l DV DU S):EV P N ops Γ acc (o::l) (ts::DV) (true::DU) S:=by
 refine .gen hs (λDx B0 JT ZS=>?_) r;refine⟨(d,.opt e s)::B4 d Dx,?_,λq hq=>oD hq⟩;intro w0 H0 a w H B1 K Q kk;rw[hgd.w w0 H0 a w H<|B1.weaken B0];have aaB:=B1.weaken (Ae:=B4 d Dx) λq hq=>(Cq q hq).1
 have hf':J1 d (B4 d Dx)=true:=wM λq hq hn=>JT rfl q hq (by simpa using hn) (d,.opt e s) (by simp)
 have CG:d∉(AJ.opt e s).Bn:=ZS rfl (d,.opt e s) (by simp) (d,.opt e s) (by simp);cases hb:e
 ·simp only[TX,if_false];rw[hd];subst hb;exact kk _ _ _ (RO aaB (Ext.refl B1.sub) hN hf' CG ⟨(λe=>by cases e),λ_=>rfl⟩ (λc e=>by cases e.1))
 ·simp only[if_true];subst hb;refine h rfl w0 H0 N a w H (B1.weaken B0) K Q λv w' H' he hv hfr=>?_
  rw[hd];exact kk _ _ _ (RO aaB he hN hf' CG ⟨(λ_=>hv),(λe=>by cases e)⟩<|λc e=>hfr c e.2)
def EV.store(h:PY P N ops AY o t s)(r:EV P N ops Γ ([(t,s)]::acc) l DV DU S):EV P N ops Γ acc (o::l) (ts::DV) (false::DU) S:=
 .gen hs (λDx B0 _ _=>⟨_,h Dx B0,λq hq=>oD hq⟩) r
def EV.asx(h:Pa P N ops AY o t d s)(r:EV P N ops Γ (((d,s)::(t,.gone)::gs.map λu=>(u,.gone))::acc) l DV DU S):EV P N ops Γ acc (o::l) (ts::DV) (true::DU) S:=by
 refine .gen hs (λDx B0 JT _=>⟨_,((h Dx B0).aaL gs).gone t,λq hq=>?_⟩) r;rcases BR.1 hq with hq|hq
 ·rcases Ag.1 hq with e|hq
  ·subst e;exact Bi _ (PA _ (by simp))
  ·rcases Ag.1 hq with e|hq
   ·subst e;simp
   ·exact Bi _<|G3 _ hq
 ·obtain⟨m1,m2⟩:=Y5.1 hq;have m3:=m2;simp only[LD,Ag,not_or] at m2;refine Bi _<|PA _<|Bi _<|RU (Ov m1 m2.2.1) m2.1 ?_
  exact JT rfl q m1 m3 (d,s) (by simp)
def EV.two(h:j9 P N ops AY o t s' d s)(r:EV P N ops Γ ([(d,s),(t,s')]::acc) l DV DU S):EV P N ops Γ acc (o::l) (ts::DV) (true::DU) S:=by
 refine .gen hs (λDx B0 JT _=>⟨_,h Dx B0,λq hq=>?_⟩) r;rcases BR.1 hq with hq|hq
 ·simp only[Ag,VV,or_false] at hq;rcases hq with e|e<;>subst e<;>simp
 ·obtain⟨m1,m2⟩:=Y5.1 hq;have m3:=m2;simp only[LD,YX,Ag,VV,or_false,not_or] at m2;exact Bi _ (Bi _ (RU (Ov m1 m2.2) m2.1 (JT rfl q m1 m3 (d,s) (by simp))))
end
section
variable[D:DR]
variable{P:Bs}{w:AK}{o:Oper}{n:Nat}{l:A3 Oper}
def Ia{P:Bs}(w0:AX P)(N:Nat)(Γ EM:Ctx):Prop:=∀(H0:HV) (a:Act) (w:AK) (H:HV),Sat w0 H0 N Γ a w H->∃H',Sat w0 H0 N EM a w H'
inductive Ib(P:Bs)(w0:AX P)(N:Nat)(ops:Aw Oper):A3 Oper->Ctx->Ctx->Prop where
 |done {Γ:Ctx}:Ib P w0 N ops [] Γ Γ
 |fin {Γ Ae:Ctx} {ts:A3 Nat} (h:E2 Γ ts Ae):Ib P w0 N ops [] Γ Ae
 |cons {Γ EM T1:Ctx} {o:Oper} {l:A3 Oper} (h:Step P N ops o Γ EM) (r:Ib P w0 N ops l EM T1):Ib P w0 N ops (o::l) Γ T1
 |ghost {Γ EM T1:Ctx} {l:A3 Oper} (h:Ia w0 N Γ EM) (r:Ib P w0 N ops l EM T1):Ib P w0 N ops l Γ T1
def FB(rd:A6 Nat):Fence:={fn:=λ_=>True,depth:=none,alive:=false,round:=rd}
def za{rd:A6 Nat}{f:FuncId}{args:Aw AO}{R:Ending->AK->Prop}(h:Calls P f args w R):CallsIn (FB rd) n P f args w R:=
 (callsIn_wide (n:=n)).2 h
def YL{rd:A6 Nat}{a:Act}{K:Act->AK->Prop}{Q:Exit->Act->AK->Prop}(Ht:∀c,o.op≠ .defer c)(h:o.wp P a w K Q):o.wpIn (FB rd) 0 P a w K Q:=by
 refine⟨λ_ _=>trivial,?_⟩;rw[Oper.semAt_eq _ _ _ Ht];unfold Oper.wp at h
 generalize (execOp a.eval o).run P w=r at*
 cases r with
 |ok n w'=>
  cases n<;>simp only[Oper.upon] at h<;>first
   |exact h
   |exact h.elim
   |exact⟨(λe=>by cases e),za h⟩
   |exact⟨(λe=>by cases e),λc cs _=>let⟨v,w2,r1,s⟩:=h c cs;⟨v,w2,r1,stepsIn_wide.2 s⟩⟩
 |halt x w'=>cases x<;>simp only[Oper.upon] at h⊢ <;>exact h
def CallsIn.zy{F:Fence}{f:FuncId}{args:Aw AO}{R R':Ending->AK->Prop}(h:CallsIn F n P f args w R)(hr:∀e w',R e w'->R' e w'):CallsIn F n P f args w R':=
 ⟨h.1,λcs hc=>let⟨e,w',fr,r,s⟩:=h.2 cs hc;⟨e,w',fr,hr _ _ r,s⟩⟩
def sx{F:Fence}{a:Act}{K K':Act->AK->Prop}{Q:Exit->Act->AK->Prop}(h:∀a w,K a w->K' a w)(hh:o.wpIn F n P a w K Q):o.wpIn F n P a w K' Q:=by
 refine⟨hh.1,?_⟩;have hh:=hh.2
 generalize (o.semAt F.round a.eval).run P w=r at*
 cases r with
 |ok n w'=>
  cases n<;>simp only[Oper.uponIn] at hh⊢ <;>
   first
    |exact h _ _ hh
    |exact⟨hh.1,CallsIn.zy hh.2 (λe w'' he=>by cases e<;>first|exact h _ _ he|exact he)⟩
    |exact⟨hh.1,RowsIn.mono hh.2<|λ_ _ he=>h _ _ he⟩
    |exact⟨hh.1,RoundIn.mono hh.2 (λe w'' he=>by cases e<;>first|exact h _ _ he|exact he)⟩
 |halt x w'=>cases x<;>simp only[Oper.uponIn] at hh⊢ <;>exact hh
def J3(l:A3 Oper):Bool:=l.all λo=>match o.op with| .defer _=>false|_=>true
def lG(h:J3 l=true)(ho:o∈l):∀c,o.op≠ .defer c:=λc e=>by
 have:=Cy.1 h o ho;simp[e] at this
def uT(h:J3 (o::l)=true):J3 l=true:=by simp only[J3,N9,BU] at h;exact h.2
def Ib.sound{w0:AX P}{N:Nat}{ops:Aw Oper}{Γ Ae:Ctx}(h:Ib P w0 N ops l Γ Ae):J3 l=true->∀(H0:HV) (a:Act) (w:AK) (H:HV),Sat w0 H0 N Γ a w H->∀(Q:Exit->Act->AK->Prop),
  (∀a' w' H',Sat w0 H0 N Ae a' w' H'->Q .normal a' w')->wpListIn (FB w0.rd) 0 P ops Q l a w:=by
 induction h with
 |done=>exact λ_ _ _ _ H hs _ k=>k _ _ H hs
 |fin h=>exact λ_ _ _ _ H hs _ k=>k _ _ H<|hs.weaken h.sub
 | @cons _ _ _ o l h _ ih=>
  intro Al H0 a w H hs Q k;have EX:=h w0 H0 a w H hs (wpListIn (FB w0.rd) 0 P ops Q l) Q λa' w' H' CG=>ih (uT Al) H0 a' w' H' CG Q k
  unfold wpListIn;split
  ·rename_i hw;rw[if_pos hw] at EX;exact YL (lG Al (by simp)) EX
  ·rename_i hw;rw[if_neg hw] at EX;exact⟨λ_ _=>trivial,EX⟩
 |ghost h _ ih=>
  intro Al H0 a w H hs Q k;obtain⟨H',CG⟩:=h H0 a w H hs;exact ih Al H0 a w H' CG Q k
end
section
variable[D:DR]
variable{P:Program}{ops:Array Oper}{Q:Exit->Act->World->Prop}{F:Fence}
def QP(F:Fence)(P:Bs)(ops:Aw Oper)(Q:Exit->Act->AK->Prop)(i:Nat)(K:Act->AK->Prop)(a:Act)(w:AK):Prop:=
 match ops[i]? with
 |none=>K a w
 |some o=>if Region.wanted o (yielded ops a.tmps) then o.wpIn F 0 P a w K Q else(∀f,o.about P w a.eval=some f->F.fn f)/\K (a.put o.dst undef) w
def PE(F:Fence)(P:Bs)(ops:Aw Oper)(Q:Exit->Act->AK->Prop):Nat->Aw Bool->Act->AK->Prop
 |0,listed,a,w=>Region.ready .any ops listed=[]/\Q .normal a w
 |fuel+1,listed,a,w=>
  (Region.ready .any ops listed=[]->Q .normal a w)/\
  ∀i∈Region.ready .any ops listed,QP F P ops Q i (PE F P ops Q fuel<|listed.setIfInBounds i true) a w
def aeI(i:Nat)(rest:A3 Nat)(a:Act)(w:AK):wpOpsIn F 0 P ops Q (i::rest) a w=QP F P ops Q i (wpOpsIn F 0 P ops Q rest) a w:=by
 cases h:ops[i]? <;>simp[wpOpsIn,QP,h]
def af7{i:Nat}{a:Act}{w:AK}{K K':Act->AK->Prop}(h:∀a w,K a w->K' a w)(hh:QP F P ops Q i K a w):QP F P ops Q i K' a w:=by
 unfold QP at*;split
 ·exact h _ _ (by simpa[*] using hh)
 ·rename_i o ho;simp only[ho] at hh;split
  ·rename_i hw;simp only[hw,if_true] at hh;exact sx h hh
  ·rename_i hw;simp only[hw] at hh;exact⟨hh.1,h _ _ hh.2⟩
def adt:∀(fuel t:Nat) (listed:Aw Bool) (a:Act) (w:AK),PE F P ops Q fuel listed a w->wpOpsIn F 0 P ops Q (Region.linearise.go .any ops fuel t listed []) a w:=by
 intro fuel
 induction fuel with
 |zero=>intro t listed a w h;simpa[Region.linearise.go,wpOpsIn] using h.2
 |succ fuel ih=>
  intro t listed a w h;obtain⟨h0,h1⟩:=h;simp only[Region.linearise.go];change wpOpsIn F 0 P ops Q (match(Region.ready .any ops listed)[t%(Region.ready .any ops listed).length]? with
   |some i=>Region.linearise.go .any ops fuel (t/(Region.ready .any ops listed).length) (listed.setIfInBounds i true) [i]
   |none=>[].reverse) a w
  cases hi:(Region.ready .any ops listed)[t%(Region.ready .any ops listed).length]? with
  |none=>
   have Tx:Region.ready .any ops listed=[]:=by
    cases hr:Region.ready .any ops listed with
    |nil=>rfl
    |cons x xs=>
     rw[hr] at hi;have hlt:t%(x::xs).length<(x::xs).length:=N8 _ (by simp);simp at hi;simp at hlt;omega
   simpa[wpOpsIn] using h0 Tx
  |some i=>
   simp only[];rw[linearise_go_acc,List.reverse_singleton,yG,aeI];exact af7 (λa w=>ih _ _ a w)<|h1 i<|Km hi
def aby{id:Nat}{a:Act}{w:AK}(hm:P.follows .mixedOrders=true)
  (h:PE F P ops Q ops.size (Array.replicate ops.size false) a {w with drawn:=w.drawn+1}):(Code.region id ops true).wpIn F 0 P Q a w:=
 wpIn_region_draw λt=>by
  simp only[Region.schedule,hm,VJ,if_true];exact adt ops.size t _ a _ h
end
section
variable[D:DR]
variable{P:Program}{N:Nat}{ops:Array Oper}{Γ Ae:Ctx}
variable{listed:Aw Bool}{i:Nat}{av:A3 (A3 Nat)}{Q:Exit->Act->AK->Prop}{k:Nat}{S:A3 Ctx}{a:Act}{w:AK}{c:Ctx}{DV:A3 (A3 Nat)}{DU:A3 Bool}{kl:A3 (A3<|Nat×A3 Nat)}{L:A3 Nat}{FV:Ctx}{ts:A3 Nat}{w0:AX P}{H0:HV}
def DK(listed:Aw Bool)(i:Nat):Prop:=listed.getD i false=true
def yU(h:i<listed.size):listed.getD i true=listed.getD i false:=by simp[h]
def Uw(hs:listed.size=ops.size):i∈Region.ready .any ops listed↔∃o,ops[i]? =some o/\ ¬DK listed i/\∀e∈Td o,DK listed e.on:=by
 simp only[Region.ready,Hf,P5];constructor
 ·rintro⟨hi,h⟩;have hi':i<listed.size:=hs▸hi;rw[yU hi'] at h;simp only[BU,F6] at h;obtain⟨h1,h2⟩:=h;refine⟨ops[i],by simp[hi],by simp[DK];simpa using h1,?_⟩;simp only[hi,getElem?_pos,P6,Yj] at h2;intro e he;have:=Array.all_eq_true'.1 h2 e (by simpa using(Hf.1 he).1);have hb:=(Hf.1 he).2;simp[hb] at this;simpa[DK] using this
 ·rintro⟨o,ho,hl,he⟩;have hi:i<ops.size:=(PI.1 ho).1;have hi':i<listed.size:=hs▸hi;refine⟨hi,?_⟩;rw[yU hi'];simp only[BU,F6,ho,P6,Yj];refine⟨by simpa[DK] using hl,?_⟩;rw[Array.all_eq_true'];intro e hm;by_cases hb:Region.binds .any e=true
  ·have:=he e (Hf.2 ⟨by simpa using hm,hb⟩);simp[DK] at this;simp[this]
  ·simp at hb;simp[hb]
def QD{j:Nat}(hi:i<listed.size):DK (listed.setIfInBounds i true) j↔(j=i\/DK listed j):=by
 simp only[DK,Tb];by_cases e:i=j
 ·subst e;simp[hi]
 ·rw[Array.getElem?_setIfInBounds_ne e];constructor
  ·exact λh=> .inr h
  ·rintro(h|h)
   ·exact absurd h.symm e
   ·exact h
def unl(listed:Aw Bool):Nat:=listed.toList.count false
def xg(hi:i<listed.size)(hn: ¬DK listed i):unl (listed.setIfInBounds i true)+1=unl listed:=by
 have hf:listed.toList[i]'(by simpa using hi)=false:=by
  simp[DK,hi] at hn;simpa using hn
 have hpos:0<listed.toList.count false:=List.count_pos_iff.2 (by rw[<-hf];exact Kg _);simp only[unl,ft];rw[List.count_set (by simpa using hi),hf];simp only[beq_self_eq_true,if_true];have:(true==false)=false:=rfl;rw[this];simp only[TX,if_false];omega
def vr(h:unl listed=0)(hi:i<listed.size):DK listed i:=by
 have:=List.count_eq_zero.1 h;have hm:listed[i]∈listed.toList:=by simp
 simp only[DK,hi,Tb,getElem?_pos,Yj];cases hb:listed[i]
 ·rw[hb] at hm;exact absurd hm this
 ·rfl
def yZ(Jp:OG ops av=true){o:Oper}(ho:ops[i]? =some o){e:Edge}(he:e∈Td o):e.on<i:=by
 have hi:=(PI.1 ho).1;have:=Cy.1 Jp i (by simp[hi]);rw[ho] at this;simp only[BU,Cy,Nz] at this;exact this.1 e he
def jV{n m:Nat}: ¬DK (Array.replicate n false) m:=by
 simp only[DK,Tb,Array.getElem?_replicate];split<;>simp
def uL(Jp:OG ops av=true)(hs:listed.size=ops.size)(hi:i<ops.size)(hn: ¬DK listed i):Region.ready .any ops listed≠[]:=by
 have key:∀m,∀i,i<=m->i<ops.size-> ¬DK listed i->∃j,j∈Region.ready .any ops listed:=by
  intro m
  induction m with
  |zero=>
   intro i him hi hn;have:i=0:=by omega
   subst this;refine⟨0,(Uw hs).2 ⟨ops[0],by simp[hi],hn,?_⟩⟩;intro e he;have:=yZ Jp (i:=0) (o:=ops[0]) (by simp[hi]) he;omega
  |succ m ih=>
   intro i him hi hn;by_cases hall:∀e∈Td ops[i],DK listed e.on
   ·exact⟨i,(Uw hs).2 ⟨ops[i],by simp[hi],hn,hall⟩⟩
   ·have⟨e,he,hne⟩:∃e,e∈Td ops[i]/\ ¬DK listed e.on:=by
     apply CC;intro hc;exact hall λe he=>CC λh=>hc ⟨e,he,h⟩
    have:=yZ Jp (i:=i) (o:=ops[i]) (by simp[hi]) he;exact ih e.on (by omega) (by omega) hne
 obtain⟨j,hj⟩:=key i i (Az _) hi hn;intro e;rw[e] at hj;cases hj
def mH(Jp:OG ops av=true)(hs:listed.size=ops.size)(hc:∀m,DK listed m->∀j∈av.getD m [],DK listed j)(hi:i∈Region.ready .any ops listed):∀j∈av.getD i [],DK listed j:=by
 obtain⟨o,ho,hn,he⟩:=(Uw hs).1 hi;have hlt:=(PI.1 ho).1;have:=Cy.1 Jp i (by simp[hlt]);simp only[ho,BU,Cy,VU] at this;intro j hj;obtain⟨e,he',hx⟩:=this.2 j hj;simp only[Kf,Q5,Ro] at hx;rcases hx with hx|hx
 ·exact hx▸he e he'
 ·exact hc e.on (he e he') j hx
def ajp{rd:A6 Nat}{o:Oper}{K:Act->AK->Prop}(ho:ops[i]? =some o)(Ht:∀c,o.op≠ .defer c)
 (h:if Region.wanted o (yielded ops a.tmps) then o.wp P a w K Q else K (a.put o.dst undef) w):QP (FB rd) P ops Q i K a w:=by
 unfold QP;simp only[ho];split
 ·rename_i hw;rw[if_pos hw] at h;exact YL Ht h
 ·rename_i hw;rw[if_neg hw] at h;exact⟨λ_ _=>trivial,h⟩
def agR{F:Fence}(hq:Q .normal a w)(fuel:Nat)(listed:Aw Bool)(hsz:listed.size=ops.size)(hL:∀j,j<ops.size->DK listed j):PE F P ops Q fuel listed a w:=by
 have hr:Region.ready .any ops listed=[]:=by
  apply List.eq_nil_iff_forall_not_mem.2;intro i hi;obtain⟨o,ho,hn,_⟩:=(Uw hsz).1 hi;exact hn<|hL i (PI.1 ho).1
 cases fuel with
 |zero=>exact⟨hr,hq⟩
 |succ f=>exact⟨λ_=>hq,λi hi=>by rw[hr] at hi;cases hi⟩
def afF{F:Fence}(Jp:OG ops av=true)(JD:QE ops k av=true):∀(l:A3 Oper)
  (i fuel:Nat) (listed:Aw Bool) (a:Act) (w:AK),l=ops.toList.drop i->k<=i->i<=ops.size->listed.size=ops.size->(∀j,j<ops.size->(DK listed j↔j<i))->
   (∀m,DK listed m->∀j∈av.getD m [],DK listed j)->unl listed<=fuel->wpListIn F 0 P ops Q l a w->PE F P ops Q fuel listed a w:=by
 intro l
 induction l with
 |nil=>
  intro i fuel listed a w hl hki hi hsz hL hc hu hw;have:ops.size<=i:=by simpa using List.drop_eq_nil_iff.1 hl.symm
  exact agR hw fuel listed hsz (λj hj=>(hL j hj).2 (by omega))
 |cons o l ih=>
  intro i fuel listed a w hl hki hi hsz hL hc hu hw;have SS:i<ops.size:=by
   apply CC;intro KN;rw[List.drop_eq_nil_of_le (by simp<;>omega)] at hl;cases hl
  have hnl: ¬DK listed i:=λh=>by have:=(hL i SS).1 h;omega
  have ho:ops[i]? =some o:=by
   have:(ops.toList.drop i)[0]? =some o:=by rw[<-hl];rfl
   simpa using this
  have hl':l=ops.toList.drop (i+1):=by
   have:=congrArg List.tail hl;simpa using this
  have hne:=uL Jp hsz SS hnl;have only:∀j∈Region.ready .any ops listed,j=i:=by
   intro j hj;obtain⟨o',JF,hn,_⟩:=(Uw hsz).1 hj;have aat:=(PI.1 JF).1;have hji:i<=j:=by
    apply CC;intro hlt;exact hn ((hL j aat).2 (by omega))
   have as6:=mH Jp hsz hc hj;simp only[QE,BU,Cy,P5,Kf,Nz,Ro] at JD;rcases JD.2 j aat with hx|hx
   ·omega
   ·apply CC;intro hne;have:=(hL i SS).1 (as6 i (hx i (by omega)));omega
  cases fuel with
  |zero=>
   exact absurd (vr (by omega)<|hsz▸SS) hnl
  |succ f=>
   refine⟨λe=>absurd e hne,λj hj=>?_⟩;have hji:=only j hj;subst hji;have Hn:j<listed.size:=hsz▸SS;have next:∀a' w',wpListIn F 0 P ops Q l a' w'->PE F P ops Q f (listed.setIfInBounds j true) a' w':=by
    intro a' w' hw';refine ih (j+1) f _ a' w' hl' (by omega) (by omega) (by simp[hsz]) ?_ ?_ ?_ hw'
    ·intro m hm;rw[QD Hn,hL m hm];omega
    ·intro m hm x hx;rw[QD Hn] at hm⊢;rcases hm with hm|hm
     ·subst hm;exact .inr<|mH Jp hsz hc hj x hx
     ·exact .inr<|hc m hm x hx
    ·have:=xg Hn hnl;omega
   unfold wpListIn at hw;unfold QP;simp only[ho];split
   ·rename_i hwt;rw[if_pos hwt] at hw;exact sx next hw
   ·rename_i hwt;rw[if_neg hwt] at hw;exact⟨hw.1,next _ _ hw.2⟩
def other(listed:Aw Bool)(S:A3 Ctx)(k lo:Nat)(t:Nat):Bool:=(List.range k).all λj=> !(decide (lo<=j)&&listed.getD j false)||(S.getD j []).all λq=>q.1 !=t
def Tu(listed:Aw Bool)(S:A3 Ctx)(k:Nat)(Γ:Ctx):Ctx:=
 ((List.range k).flatMap λj=>if listed.getD j false=true then(S.getD j []).filter (λq=>other listed S k (j+1) q.1) else [])++
 Γ.filter λq=>other listed S k 0 q.1
def dF{lo t:Nat}:other listed S k lo t=true↔∀j c,lo<=j->j<k->DK listed j->S[j]? =some c->∀q∈c,q.1≠t:=by
 simp only[other,Cy,P5,Kf,F6,Bool.and_eq_false_imp,Nz,LB,ne_eq];constructor
 ·intro h j c h1 h2 h3 h4 q hq;rcases h j h2 with h|h
  ·have:=h h1;rw[h3] at this;cases this
  ·exact h q (by rw[Eo,h4];exact hq)
 ·intro h j hj;by_cases hl:lo<=j/\listed.getD j false=true
  ·right;intro q hq;rw[Eo] at hq;cases hc:S[j]? with
   |none=>rw[hc] at hq;cases hq
   |some c=>rw[hc] at hq;exact h j c hl.1 hj hl.2 hc q hq
  ·left;intro h1;cases hb:listed.getD j false
   ·rfl
   ·exact absurd ⟨h1,hb⟩ hl
def TB{Γ:Ctx}{q:Nat×AJ}:q∈Tu listed S k Γ↔
  (∃j c,j<k/\DK listed j/\S[j]? =some c/\q∈c/\∀j' c',j<j'->j'<k->DK listed j'->S[j']? =some c'->∀q'∈c',q'.1≠q.1)\/(q∈Γ/\∀j c',j<k->DK listed j->S[j]? =some c'->∀q'∈c',q'.1≠q.1):=by
 simp only[Tu,BR,NB,P5,Hf];constructor
 ·rintro(⟨j,hj,h⟩|⟨h1,h2⟩)
  ·left;split at h
   ·rename_i hl;obtain⟨h1,h2⟩:=Hf.1 h;rw[dF] at h2;cases hc:S[j]? with
    |none=>rw[Eo,hc] at h1;cases h1
    |some c=>
     rw[Eo,hc] at h1;exact⟨j,c,hj,hl,hc,h1,λj' c' h3 h4 h5 h6=>h2 j' c' h3 h4 h5 h6⟩
   ·cases h
  ·right;rw[dF] at h2;exact⟨h1,λj c' h3 h4 h5=>h2 j c' (F2 _) h3 h4 h5⟩
 ·rintro(⟨j,c,hj,hl,hc,hq,hm⟩|⟨h1,h2⟩)
  ·left;refine⟨j,hj,?_⟩;have hl':listed.getD j false=true:=hl;rw[if_pos hl'];exact Hf.2 ⟨by rw[Eo,hc];exact hq,dF.2 λj' c' h3 h4 h5 h6=>hm j' c' h3 h4 h5 h6⟩
  ·exact .inr ⟨h1,dF.2 λj c' _ h3 h4 h5=>h2 j c' h3 h4 h5⟩
def LX(c:Ctx):A3 (Nat×A3 Nat):=c.map λp=>(p.1,p.2.Bn)
def nA{p:Nat×AJ}(h:p∈c):(p.1,p.2.Bn)∈LX c:=BI.2 ⟨p,h,rfl⟩
def V8{p:Nat×AJ}{l:A3 Nat}(h:p∈c)(hl:p.1∈l):meets (LX c) l=true:=
 VU.2 ⟨_,nA h,by simpa using hl⟩
def vV{t:Nat}(h:meets (LX c) [t]=true):t∈c.map (·.1):=by
 obtain⟨x,hx,hy⟩:=VU.1 h;obtain⟨y,hy1,rfl⟩:=BI.1 hx;simp at hy;exact BI.2 ⟨y,hy1,hy⟩
def amg{m:Nat}(h:DK listed m):m<listed.size:=by
 apply CC;intro KN;simp[DK,Tb,Yp<|Nat.le_of_not_lt KN] at h
def af2{Γ:Ctx}(Al:J3 (ops.toList.take k)=true)(Jp:OG ops av=true)(Ht:SX k kl DV DU L av=true)(hkn:k<=ops.size)(Tw:∀i,k<=i->i<ops.size->∀j,j<k->j∈av.getD i [])
 (JG:S.reverse.map LX=kl)(hL:O0 Γ=L)
 (hp:EV P N ops Γ [] (ops.toList.take k) DV DU S)(KA:E2 (S.flatten++Γ) ts FV)
 (Jo:∀(fuel:Nat) (listed:Aw Bool) (a:Act) (w:AK) (H:HV),listed.size=ops.size->(∀j,j<ops.size->(DK listed j↔j<k))->(∀m,DK listed m->∀j∈av.getD m [],DK listed j)->unl listed<=fuel->Sat w0 H0 N FV a w H->PE (FB w0.rd) P ops Q fuel listed a w):
  ∀(fuel:Nat) (listed:Aw Bool) (a:Act) (w:AK) (H:HV),listed.size=ops.size->(∀m,DK listed m->∀j∈av.getD m [],DK listed j)->(∀i,k<=i->i<ops.size-> ¬DK listed i)->
   unl listed<=fuel->Sat w0 H0 N (Tu listed S.reverse k Γ) a w H->PE (FB w0.rd) P ops Q fuel listed a w:=by
 obtain⟨⟨S',hS',hlen⟩,hnl,JE,hat⟩:=hp.at_;have hSl:S.length=k:=by rw[hS'];simp[hlen,hkn]
 have amk:DV.length=k:=by rw[hnl];simp[hkn]
 have aog:DU.length=k:=by rw[JE];simp[hkn]
 have key:∀j c,S.reverse[j]? =some c->kl.getD j []=LX c:=by
  intro j c h;rw[<-JG,Eo,GX,h]
  rfl
 simp only[SX,BU] at Ht;obtain⟨hc1,Fm⟩:=Ht;have qm:∀i j (ci cj:Ctx),i<j->j<k->S.reverse[i]? =some ci->S.reverse[j]? =some cj->((∃p∈ci,p.1∈DV.getD j [])\/(∃p∈ci,∃q∈cj,p.1=q.1)\/(∃p∈cj,p.1∈DV.getD i []))->i∈av.getD j []:=by
  intro i j ci cj Jm hj h1 h2 h3;simp only[Cy,P5,Kf,F6,Ro] at hc1;rcases hc1 j hj i Jm with h|h
  ·rw[key i ci h1,key j cj h2] at h;simp only[LL] at h;exfalso;rcases h3 with⟨p,hp,h3⟩|⟨p,hp,q,hq,h3⟩|⟨p,hp,h3⟩
   ·have:=V8 hp h3;rw[h.1.1] at this;cases this
   ·have:=V8 (l:=(LX cj).map (·.1)) hp (by rw[h3];exact BI.2 ⟨_,nA hq,rfl⟩);rw[h.1.2] at this;cases this
   ·have:=V8 hp h3;rw[h.2] at this;cases this
  ·exact h
 have lean:∀j (cj:Ctx),j<k->DU.getD j true=true->S.reverse[j]? =some cj->∀p∈cj.take 1,(p.1∉L)/\∀i (ci:Ctx),i<k->S.reverse[i]? =some ci->∀q∈ci,p.1∈q.2.Bn->(i≠j/\(q.1∈cj.map (·.1)\/j∈av.getD i []\/∃m,m∈av.getD j []/\i<m/\meets (kl.getD m []) [q.1]=true))\/(i=j/\∀p'∈cj.take 1,p'.1≠q.1):=by
  intro j cj hj hpj h1 p hp;have tk:(LX cj).take 1=LX (cj.take 1):=by simp[LX,oO]
  simp only[Cy,P5,Kf,F6,BU] at Fm;rcases Fm j hj with h|⟨h2,h3⟩
  ·rw[hpj] at h;cases h
  ·rw[key j cj h1,tk] at h2;refine⟨(λhm=>by have:=V8 hp hm;rw[h2] at this;cases this),λi ci hi h4 q hq h5=>?_⟩;have h6:=h3 i hi (q.1,q.2.Bn) (by rw[key i ci h4];exact nA hq);have h6:=h6 p.1 h5;simp only[Kf,F6,BU,LB,ne_eq,Ro] at h6;rcases h6 with(h6|⟨h6,(h7|h7)|h7⟩)|⟨h6,h7⟩
   ·have:=V8 (l:=[p.1]) hp (by simp);rw[key j cj h1,tk] at h6;rw[h6] at this;cases this
   ·refine .inl ⟨h6,.inl ?_⟩;rw[key j cj h1] at h7;exact vV h7
   ·exact .inl ⟨h6,.inr<| .inl h7⟩
   ·obtain⟨m,hm,h8⟩:=VU.1 h7;simp only[BU,Nz] at h8;exact .inl ⟨h6,.inr<| .inr ⟨m,hm,h8.1,h8.2⟩⟩
   ·refine .inr ⟨by simpa using h6,λp' hp' e=>?_⟩;rw[key j cj h1,tk] at h7;have:=V8 (l:=[q.1]) hp' (by simp[e]);rw[h7] at this;cases this
 have pure:∀i o,i<k->ops[i]? =some o->∃c,S.reverse[i]? =some c/\zk P N ops Γ (DV.getD i []) (DU.getD i true) S.reverse i o c:=by
  intro i o hi ho;have e1:DV[i]? =some (DV.getD i []):=by simp[Eo,amk,hi]
  have e2:DU[i]? =some (DU.getD i true):=by simp[Eo,aog,hi]
  obtain⟨p,h1,h2⟩:=hat i o _ _ (by rw[List.getElem?_take_of_lt hi];simpa using ho) e1 e2;exact⟨p,by simpa using h1,by simpa using h2⟩
 have toTail:∀(fuel:Nat) (listed:Aw Bool) (a:Act) (w:AK) (H:HV),listed.size=ops.size->(∀m,DK listed m->∀j∈av.getD m [],DK listed j)->(∀i,k<=i->i<ops.size-> ¬DK listed i)->
   unl listed<=fuel->(∀j,j<k->DK listed j)->Sat w0 H0 N (Tu listed S.reverse k Γ) a w H->PE (FB w0.rd) P ops Q fuel listed a w:=by
  intro fuel listed a w H hsz hc JG hu hall B1;refine Jo fuel listed a w H hsz ?_ hc hu<|B1.weaken ?_
  ·intro j hj;constructor
   ·intro h;apply CC;intro KN;exact JG j (by omega) hj h
   ·exact hall j
  ·intro q hq;have hat:=lU (S:=S.reverse) (λj _=>rfl)<|KA.looks q hq
   rw[hSl] at hat;rw[TB];rcases hat with⟨j,c,hj,h1,h1',h2⟩|⟨h1,h2⟩
   ·exact .inl ⟨j,c,hj,hall j hj,h1,h1',λj' q' h3 h4 _ h5=>h2 j' q' h3 h4 h5⟩
   ·exact .inr ⟨h1,λj q' h3 _ h5=>h2 j q' h3 h5⟩
 intro fuel
 induction fuel with
 |zero=>
  intro listed a w H hsz hc JG hu B1;exact toTail 0 listed a w H hsz hc JG hu (λj hj=>vr (by omega) (by omega)) B1
 |succ f ih=>
  intro listed a w H hsz hc JG hu B1;by_cases hall:∀j,j<k->DK listed j
  ·exact toTail (f+1) listed a w H hsz hc JG hu hall B1
  ·have⟨j0,hj0,hn0⟩:∃j,j<k/\ ¬DK listed j:=by
    apply CC;intro as4;exact hall λj hj=>CC λh=>as4 ⟨j,hj,h⟩
   refine⟨λe=>absurd e (uL Jp hsz (by omega) hn0),λi hi=>?_⟩;obtain⟨o,ho,hni,_⟩:=(Uw hsz).1 hi;have SS:=(PI.1 ho).1;have hil:i<listed.size:=hsz▸SS;have j6:=mH Jp hsz hc hi;by_cases hik:i<k
   ·obtain⟨c,hp1,hp2⟩:=pure i o hik ho;obtain⟨AY,hex,B0⟩:=hp2.exec;have hin:∀q∈AY,q∈Tu listed S.reverse k Γ:=by
     intro q hq;obtain⟨hm,hx⟩:=B0 q hq;have up:∀j' c',i<=j'->j'<k->DK listed j'->S.reverse[j']? =some c'->∀q'∈c',q'.1≠q.1:=by
      intro j' c' h3 h4 h5 h6 q' hq' e;rcases Nat.lt_or_eq_of_le h3 with h3|h3
      ·have:=qm i j' c c' h3 h4 hp1 h6 (.inr<| .inr ⟨q',hq',e▸hm⟩);exact hni<|hc j' h5 i this
      ·subst h3;exact hni h5
     refine TB.2 ?_;rcases hx with⟨j,cj,hj,hqj,hqc,Mi⟩|⟨hx,Mi⟩
     ·refine .inl ⟨j,cj,by omega,j6 j<|qm j i cj c hj hik hqj hp1<| .inl ⟨q,hqc,hm⟩,hqj,hqc,λj' c' h3 h4 h5 h6=>?_⟩;rcases Gh j' i with h7|h7
      ·exact Mi j' c' h3 h7 h6
      ·exact up j' c' h7 h4 h5 h6
     ·refine .inr ⟨hx,λj' c' h4 h5 h6=>?_⟩;rcases Gh j' i with h7|h7
      ·exact Mi j' c' h7 h6
      ·exact up j' c' h7 h4 h5 h6
    have JT:DU.getD i true=true->∀q∈Tu listed S.reverse k Γ,q.1∉c.map (·.1)->∀p∈c.take 1,p.1∉q.2.Bn:=by
     intro hpt q hq hnk p hp e;obtain⟨l1,l2⟩:=lean i c hik hpt hp1 p hp;rcases TB.1 hq with⟨j,cj,hj,hlj,hqj,hqc,Mi⟩|⟨hq,_⟩
     ·rcases(l2 j cj hj hqj q hqc e).resolve_right (λh=>by obtain⟨rfl,_⟩:=h;exact hni hlj)|>.2 with h|h
      ·exact hnk h
      ·rcases h with h|⟨m,hm,him,hme⟩
       ·exact hni<|hc j hlj i h
       ·have hlm:=j6 m hm;have hmk:m<k:=by
         apply CC;intro KN;exact JG m (by omega) (hsz▸amg hlm) hlm
        obtain⟨cm,hcm,_⟩:=pure m ops[m] hmk (by simp<;>omega);rw[key m cm hcm] at hme;obtain⟨y,hy1,hy2⟩:=BI.1<|vV hme
        exact Mi m cm (by omega) hmk hlm hcm y hy1 hy2
     ·exact l1<|hL▸tt hq e
    have ZS:DU.getD i true=true->∀q∈c.take 1,∀p∈c.take 1,p.1∉q.2.Bn:=by
     intro hpt q hq p hp e;rcases(lean i c hik hpt hp1 p hp).2 i c hik hp1 q (OA hq) e with h|h
     ·exact h.1 rfl
     ·exact h.2 q hq rfl
    obtain⟨Γn,EX,iD⟩:=hex _ hin JT ZS;refine ajp ho (lG Al (Km (i:=i) (by rw[List.getElem?_take_of_lt hik];simpa using ho)))<|EX w0 H0 a w H B1 _ Q λa' w' H' Jk=>?_
    refine ih _ _ w' H' (by simp[hsz]) ?_ ?_ ?_<|Jk.weaken ?_
    ·intro m hm x hx;rw[QD hil] at hm⊢;rcases hm with hm|hm
     ·subst hm;exact .inr<|j6 x hx
     ·exact .inr<|hc m hm x hx
    ·intro m hm1 hm2;rw[QD hil];rintro(h|h)
     ·omega
     ·exact JG m hm1 hm2 h
    ·have:=xg hil hni;omega
    ·intro q hq;refine iD q ?_;rcases TB.1 hq with⟨j,cj,hj,hlj,hqj,hqc,Mi⟩|⟨hq,Mi⟩
     ·by_cases hji:j=i
      ·subst hji;rw[hp1] at hqj;cases hqj;exact G3 _ hqc
      ·have aaq:DK listed j:=by
        rw[QD hil] at hlj;rcases hlj with h|h
        ·exact absurd h hji
        ·exact h
       refine PA _ (Y5.2 ⟨TB.2 (.inl ⟨j,cj,hj,aaq,hqj,hqc,λj' q' h3 h4 h5 h6=>Mi j' q' h3 h4 (by rw[QD hil];exact .inr h5) h6⟩),λe=>?_⟩);obtain⟨p,hp,e⟩:=BI.1 e;rcases Gh i j with h7|h7
       ·exact hni<|hc j aaq i<|qm i j c cj h7 hj hp1 hqj<| .inr<| .inl ⟨p,hp,q,hqc,e⟩
       ·exact Mi i c (by omega) hik (by rw[QD hil];exact .inl rfl) hp1 p hp e
     ·refine PA _ (Y5.2 ⟨TB.2 (.inr ⟨hq,λj q' h4 h5 h6=>Mi j q' h4 (by rw[QD hil];exact .inr h5) h6⟩),λe=>?_⟩);obtain⟨p,hp,e⟩:=BI.1 e;exact Mi i c hik (by rw[QD hil];exact .inl rfl) hp1 p hp e
   ·exfalso;exact hn0 (j6 j0 (Tw i (by omega) SS j0 hj0))
def aft{Γ:Ctx}(Al:J3 (ops.toList.take k)=true)(Jp:OG ops av=true)(Ht:SX k kl DV DU L av=true)(JD:QE ops k av=true)
 (JG:S.reverse.map LX=kl)(hL:O0 Γ=L)
 (hp:EV P N ops Γ [] (ops.toList.take k) DV DU S)(KA:E2 (S.flatten++Γ) ts FV)
 (Jo:∀a w H,Sat w0 H0 N FV a w H->wpListIn (FB w0.rd) 0 P ops Q (ops.toList.drop k) a w):
  ∀(fuel:Nat) (listed:Aw Bool) (a:Act) (w:AK) (H:HV),listed.size=ops.size->(∀m,DK listed m->∀j∈av.getD m [],DK listed j)->(∀i,k<=i->i<ops.size-> ¬DK listed i)->
   unl listed<=fuel->Sat w0 H0 N (Tu listed S.reverse k Γ) a w H->PE (FB w0.rd) P ops Q fuel listed a w:=by
 have qQ:=JD;simp only[QE,BU,Cy,P5,Kf,Nz,Ro] at qQ;have hkn:k<=ops.size:=qQ.1;refine af2 Al Jp Ht hkn (λi hi hn j hj=>?_) JG hL hp KA λfuel listed a w H hsz hl hc hu hs=>afF Jp JD _ k fuel listed a w rfl (Az _) hkn hsz hl hc hu<|Jo a w H hs
 rcases qQ.2 i hn with h|h
 ·omega
 ·exact h j (by omega)
def xX{Γ:Ctx}{id:Nat}(hm:P.follows .mixedOrders=true)(Al:J3 (ops.toList.take k)=true)(Jp:OG ops av=true)(Ht:SX k kl DV DU L av=true)(JD:QE ops k av=true)
 (JG:S.reverse.map LX=kl)(hL:O0 Γ=L)
 (hp:EV P N ops Γ [] (ops.toList.take k) DV DU S)(KA:E2 (S.flatten++Γ) ts FV)
 (Jo:∀a w H,Sat w0 H0 N FV a w H->wpListIn (FB w0.rd) 0 P ops Q (ops.toList.drop k) a w)
 {H:HV}(hs:Sat w0 H0 N Γ a w H):(Code.region id ops true).wpIn (FB w0.rd) 0 P Q a w:=by
 refine aby hm (aft Al Jp Ht JD JG hL hp KA Jo ops.size _ a _ H (by simp) ?_ ?_ ?_ ?_)
 ·intro m h;exact absurd h jV
 ·intro i _ hi h;exact absurd h jV
 ·simp[unl]
 ·have he:Ext w H {w with drawn:=w.drawn+1} H:=⟨⟨⟨rfl,rfl,rfl,Az _,λ_ _=>rfl⟩,GQ.of<|P1 _⟩,HV.le.refl _,λ_ _=>rfl,hs.sub⟩;refine(dZ hs he).weaken λq hq=>?_
  rcases TB.1 hq with⟨j,_,_,hl,_⟩|⟨hq,_⟩
  ·exact absurd hl jV
  ·exact hq
end
section
variable[D:DR]
def Goal(P:Bs)(w0:AX P)(H0:HV)(N:Nat)(c:Code)(Q:Exit->Act->AK->Prop)(Γ:Ctx):Prop:=
 ∀a w H,Sat w0 H0 N Γ a w H->c.wpIn (FB w0.rd) 0 P Q a w
def E1{P:Bs}(w0:AX P)(H0:HV)(N:Nat)(K:Act->AK->Prop)(Γ:Ctx):Prop:=∀a w H,Sat w0 H0 N Γ a w H->K a w
end
section
variable[D:DR]
variable{P:Program}{w0:AX P}{H0:HV}{N:Nat}{Q:Exit->Act->World->Prop}{Γ Ae:Ctx}
variable{w:AK}{ρ:Type}{a:Act}{fn:Func}{c:Code}{r:ρ}{H:HV}{id:Nat}{ts:A3 Nat}{n:Nat}{α:Type}{rs:A3 ResultVar}{x:Code}{t:Nat}{b:Bool}{K:α->A6 ρ}{args:A3 Ty}{E:Af}{sz:Nat}{l:A3 Ty}
def A7{y:Code}(h:Goal P w0 H0 N x (Exit.then (y.wpIn (FB w0.rd) 0 P Q) Q) Γ):Goal P w0 H0 N (.seq x y) Q Γ:=λa w H hs=>wpIn_seq<|h a w H hs
def xE{l:A3 Oper}(Al:J3 l=true)(h:Ib P w0 N l.toArray l Γ Ae)(k:E1 w0 H0 N (Q .normal) Ae):Goal P w0 H0 N (.region id l.toArray false) Q Γ:=
 λa w H hs=>wpIn_region_lit<|h.sound Al H0 a w H hs Q k
def an1{ops:Aw Oper}{k:Nat}{S:A3 Ctx}{FV:Ctx}(Al:J3 ops.toList=true)(kl:A3 (A3<|Nat×A3 Nat))(L:A3 Nat)(av DV:A3 (A3 Nat))(DU:A3 Bool)(hm:P.follows .mixedOrders=true)(hc:(OG ops av&&SX k kl DV DU L av&&QE ops k av)=true)
 (hp:EV P N ops Γ [] (ops.toList.take k) DV DU S)(JG:S.reverse.map LX=kl)(hL:O0 Γ=L)(KA:E2 (S.flatten++Γ) ts FV)(Jo:Ib P w0 N ops (ops.toList.drop k) FV Ae)(kk:E1 w0 H0 N (Q .normal) Ae):Goal P w0 H0 N (.region id ops true) Q Γ:=by
 simp only[BU] at hc;have h1:J3 (ops.toList.take k)=true:=Cy.2 λo ho=>Cy.1 Al o<|OA ho
 have h2:J3 (ops.toList.drop k)=true:=Cy.2 λo ho=>Cy.1 Al o<|QC ho
 exact λa w H hs=>xX hm h1 hc.1.1 hc.1.2 hc.2 JG hL hp KA (H0:=H0) (λa w H hs=>Jo.sound h2 H0 a w H hs Q kk) hs
def AD(k:E1 w0 H0 N (Q .normal) Γ):Goal P w0 H0 N .skip Q Γ:=λa w H hs=>wpIn_skip<|k a w H hs
def AA(k:E1 w0 H0 N (Q .ret) Γ):Goal P w0 H0 N .ret Q Γ:=λa w H hs=>wpIn_ret<|k a w H hs
def Ai(k:E1 w0 H0 N (Q<| .exit id) Γ):Goal P w0 H0 N (.exit id) Q Γ:=λa w H hs=>wpIn_exit<|k a w H hs
def AI(h:Goal P w0 H0 N c (Exit.inBlock id Q) Γ):Goal P w0 H0 N (.block id c) Q Γ:=λa w H hs=>wpIn_block<|h a w H hs
def Tk{y:Code}(hl:look Γ t=some (.val<|Ar b))(hx:b=true->Goal P w0 H0 N x Q Γ)(hy:b=false->Goal P w0 H0 N y Q Γ):Goal P w0 H0 N (.cond (.tmp t) x y) Q Γ:=by
 intro a w H hs;have hv:AT a t= .bool b:=hs.holds _<|Au hl
 exact wpIn_cond_split (t:=b) hv (λh=>hx h a w H hs)<|λh=>hy h a w H hs
def Nn(h:E2 Γ ts Ae)(k:Goal P w0 H0 N c Q Ae):Goal P w0 H0 N c Q Γ:=λa w H hs=>k a w H<|hs.weaken h.sub
def wp_loop_ghost{F:Fence}{ι:Type}(I:ι->Act->AK->Prop)(μ:ι->Nat)(i0:ι)(ar9:I i0 a w)
 (round:∀i x y,I i x y->c.wpIn F n P (Exit.then (λa' w'=>∃j,I j a' w'/\μ j<μ i) Q) x y):(Code.loop c).wpIn F n P Q a w:=by
 intro b k cs hro hb hr;have key:∀n i a w,μ i=n->I i a w->∃e a' w',Q e a' w'/\ArrivesIn (Machine.fenced P F) P (lone (b.atR a (.code c:: .inLoop c::k)) cs w) b k cs e a' w':=by
  intro n
  induction n using Nat.strongRecOn with
  |_ n ih=>
   intro i a w hn hI;obtain⟨e,a1,w1,hq,SU⟩:=round i a w hI b (.inLoop c::k) cs hro hb hr;cases e with
   |normal=>
    obtain⟨j,hj,hlt⟩:=hq;obtain⟨e2,a2,w2,hq2,apD⟩:=ih (μ j) (hn▸hlt) j a1 w1 rfl hj;exact⟨e2,a2,w2,hq2,.of_steps (StepsIn.trans SU<| .one (fenced_calm hb hr rfl) stepR_inLoop) apD⟩
   |exit id=>exact⟨_,a1,w1,hq,.pass (x:= .inLoop c) rfl (λ_ _=> .inl (by simp)) SU⟩
   |goto l=>exact⟨_,a1,w1,hq,.pass (x:= .inLoop c) rfl (λ_ _=> .inl (by simp)) SU⟩
   |ret=>exact⟨_,a1,w1,hq,.pass (x:= .inLoop c) rfl (λ_ _=> .inl (by simp)) SU⟩
   |panic ch=>exact⟨_,a1,w1,hq,.pass (x:= .inLoop c) rfl (λ_ _=> .inl (by simp)) SU⟩
   |outgrown=>exact⟨_,a1,w1,hq,.pass (x:= .inLoop c) rfl (λ_ _=> .inl (by simp)) SU⟩
 obtain⟨e,a',w',hq,SU⟩:=key _ i0 a w rfl ar9;exact⟨e,a',w',hq,.of_steps (.one (fenced_calm hb hr rfl) stepR_loop) SU⟩
def O1(h:Ia w0 N Γ Ae)(k:Goal P w0 H0 N c Q Ae):Goal P w0 H0 N c Q Γ:=λa w H hs=>by
 obtain⟨H',CG⟩:=h H0 a w H hs;exact k a w H' CG
def E5{K:Act->AK->Prop}(h:Ia w0 N Γ Ae)(k:E1 w0 H0 N K Ae):E1 w0 H0 N K Γ:=λa w H hs=>by
 obtain⟨H',CG⟩:=h H0 a w H hs;exact k a w H' CG
def bd{α ρ:Type}(e:A6 α)(K:α->A6 ρ):A6 ρ:=match e with
 |none=>none
 |some x=>K x
def gC{ρ:Type}(c:Bool)(K:A6 ρ):A6 ρ:=match c with
 |true=>K
 |false=>none
def Aa{α ρ:Type}(g:Bool)(d:α)(e:A6 α)(K:α->A6 ρ):A6 ρ:=match g with
 |true=>bd e K
 |false=>K d
def jn{α ρ:Type}(K:α->A6 ρ)(E:(α->A6 ρ)->A6 ρ):A6 ρ:=E K
def lp{σ ρ:Type}:Nat->((σ->A6 ρ)->σ->A6 ρ)->σ->A6 ρ
 |0,_,_=>none
 |n+1,B,s=>B (lp n B) s
def Ao{e:A6 α}(h:bd e K=some r):∃x,e=some x/\K x=some r:=by
 cases e with
 |none=>cases h
 |some x=>exact⟨x,rfl,h⟩
def Vi{c:Bool}{K:A6 ρ}(h:gC c K=some r):c=true/\K=some r:=by
 cases c
 ·cases h
 ·exact⟨rfl,h⟩
def L6{g:Bool}{d:α}{e:A6 α}(h:Aa g d e K=some r):∃x,(g=true->e=some x)/\K x=some r:=by
 cases g
 ·exact⟨d,(λe=>nomatch e),h⟩
 ·obtain⟨x,h1,h2⟩:=Ao h;exact⟨x,λ_=>h1,h2⟩
def anV{x y:A6 ρ}{r:A6 ρ}(h:cond b x y=r)(hb:b=true):x=r:=by subst hb;exact h
def anW{x y:A6 ρ}{r:A6 ρ}(h:cond b x y=r)(hb:b=false):y=r:=by subst hb;exact h
def Mid{P:Bs}{α ρ:Type}(w0:AX P)(H0:HV)(N:Nat)(Ii:α->Ctx)(k:α->A6 ρ)(r:ρ)(a:Act)(w:AK):Prop:=∃i,k i=some r/\∃H,Sat w0 H0 N (Ii i) a w H
def Ry(Ii:α->Ctx){E:(α->A6 ρ)->A6 ρ}(hm:jn K E=some r)
 (h:∀k,E k=some r->Goal P w0 H0 N x (Exit.then (Mid w0 H0 N Ii k r) Q) Γ)(kk:∀i,K i=some r->E1 w0 H0 N (Q .normal) (Ii i)):Goal P w0 H0 N x Q Γ:=
 λa w H hs=>VG (h K hm a w H hs) λe a' w' q=>by
  cases e with
  |normal=>obtain⟨i,hi,H',CG⟩:=q;exact kk i hi a' w' H' CG
  |_=>exact q
def apN{Ii:α->Ctx}{k:α->A6 ρ}{i:α}(hm:k i=some r)(h:E2 Γ ts (Ii i)):E1 w0 H0 N (λa w=>Mid w0 H0 N Ii k r a w) Γ:=
 λ_ _ H hs=>⟨i,hm,H,hs.weaken h.sub⟩
def zW{σ:Type}(AY:σ->Ctx){B:(σ->A6 ρ)->σ->A6 ρ}{s0:σ}(hm:lp n B s0=some r)(h0:E2 Γ ts (AY s0))
 (round:∀(k:σ->A6 ρ) (s:σ),B k s=some r->Goal P w0 H0 N c (Exit.then (Mid w0 H0 N AY k r) Q) (AY s)):Goal P w0 H0 N (.loop c) Q Γ:=by
 intro a w H hs;refine wp_loop_ghost (λ(i:Nat×σ) a w=>lp i.1 B i.2=some r/\∃H,Sat w0 H0 N (AY i.2) a w H) (λi=>i.1) (n,s0) ⟨hm,H,hs.weaken h0.sub⟩ ?_;rintro⟨m,s⟩ a w ⟨hl,H,hs⟩;cases m with
 |zero=>cases hl
 |succ m=>
  refine VG (round (lp m B) s hl a w H hs) λe a' w' q=>?_
  cases e with
  |normal=>obtain⟨i,hi,H',CG⟩:=q;exact⟨(m,i),⟨hi,H',CG⟩,Nat.lt_succ_self m⟩
  |_=>exact q
inductive Res where
 |vs(l:A3 Ty)
 |fr(E:Af)(sz:Nat)(l:A3 Ty)
def Kr(H:HV):A3 Ty->AO->Prop
 |[τ],v=>τ.ok H v
 |l,v=>∃vs,v= .tuple vs/\EW H l vs.toList
def Res.holds(n:Nat)(w:AK)(H:HV)(v:AO):Res->Prop
 | .vs l=>Kr H l v
 | .fr E sz l=>∃xs,w.ownsRow 0 E sz v l.length xs/\D4 H l xs/\∀b,v.ownBlock=some b->n<=b/\H b=none
def GA(P:Bs)(f:FuncId):Bool:=
 match P.funcs[f]? with
 |some fn=>fn.body.isSome&& !(fn.name== "runtime.NumGoroutine")
 |none=>false
def Returns(w:AK)(H:HV)(BP:Res)(e:Ending)(w':AK):Prop:=
 ∃v,e= .returned v/\F1 w.heap.size w w'/\∃H',(∀r,r<w.heap.size->H' r=H r)/\(∀r o,H' r=some o->w'.heap[r]? =some o)/\BP.holds w.heap.size w' H' v
structure EE(P:Bs)(f:FuncId)(args:A3 Ty)(BP:Res):Prop where
 can:GA P f=true
 run:∀(w:AK) (H:HV) (vs:A3 AO),(∀r o,H r=some o->w.heap[r]? =some o)->Kp P H->EW H args vs->Calls P f vs.toArray w (Returns w H BP)
def EE.apm{f:FuncId}{BP:Res}(h: @EE DR.strict P f args BP):EE P f args BP:=
 ⟨EE.can (D:=DR.strict) h,λw H vs sub gl ha=>(EE.run (D:=DR.strict) h w H vs sub gl ha).mono λe w' ⟨v,e1,hb,r⟩=>⟨v,e1,⟨F1.toBelow (D:=DR.strict) hb,GQ.of<|F1.drawn (D:=DR.strict) hb⟩,r⟩⟩
def Gy:Nat->A3 Ty->Ctx
 |_,[]=>[]
 |i,τ::l=>(i,.val τ)::Gy (i+1) l
def bz{H:HV}{B:AX P}{a:Act}{w:AK}:∀{l:A3 Ty} {vs:A3 AO} (i:Nat),EW H l vs->(∀j v,vs[j]? =some v->AT a (i+j)=v)->∀p∈Gy i l,p.2.holds B a w H (AT a p.1)
 |[],_,_,_,_,p,hp=>by simp[Gy] at hp
 |τ::l,_,i,⟨v,rest,e,hv,hr⟩,hg,p,hp=>by
  subst e;simp only[Gy,Ag] at hp;rcases hp with e|hp
  ·subst e;have:=hg 0 v rfl;simp only[Re] at this;rw[this];exact hv
  ·exact bz (i+1) hr (λj v hj=>by have:=hg (j+1) v (by simpa using hj);rw[<-this];congr 1;omega) p hp
def lP{w:AK}{v:AO}{b:Nat}:∀{l:A3 Ty} {i:Nat},∀p∈Gy i l,¬p.2.owns w v b
 |[],_,p,hp=>by simp[Gy] at hp
 |τ::l,i,p,hp=>by
  simp only[Gy,Ag] at hp;rcases hp with e|hp
  ·subst e;exact λh=>h
  ·exact lP p hp
def vg{vs:A3 AO}(sub:∀r o,H r=some o->w.heap[r]? =some o)(gl:Kp P H)(Al:EW H args vs)(hn:args.length<=n):
  Sat (AX.call P w) H n (Gy 0 args) {tmps:=vs.toArray++Array.replicate (n-vs.toArray.size) undef,defers:=[]} w H:=by
 have hl:=RQ Al;refine⟨trivial,by simp;omega,⟨rfl,rfl,rfl,Az _,Az _,λ_ _ _ _=>rfl⟩,λ_ _ _ _=>rfl,sub,?_,?_,gl⟩
 ·refine bz 0 Al λj v hj=>?_
  have Ip:=(EC.1 hj).1;have e:(vs.toArray++Array.replicate (n-vs.toArray.size) undef)[0+j]? =some v:=by
   rw[Array.getElem?_append_left (by simpa using Ip)];simpa using hj
  simp[AT,Tb];simp at e;rw[e];rfl
 ·intro p hp q _ _ b hb;exact absurd hb<|lP p hp
inductive AQ(P:Bs)(Γ:Ctx):A3 ResultVar->A3 Ty->Prop where
 |nil:AQ P Γ [] []
 |tmp {t:Nat} {τ GH:Ty} {rs:A3 ResultVar} {l:A3 Ty} (h:look Γ t=some (.val τ)) (hi:τ=GH) (r:AQ P Γ rs l):AQ P Γ (.tmp t::rs) (GH::l)
 |cell {t T:Nat} {T':Af} {τ GH:Ty} {rs:A3 ResultVar} {l:A3 Ty} (h:look Γ t=some (.own T' τ)) (hT:∀(w:AK) (b:Nat) (x:AO) (E:Af),w.heap[b]? =some (.cells x.cells E (0,0))->Shape τ.n τ.agg x->(loadVar T ⟨b,0,none⟩).run P w= .ok x w)
   (hi:τ=GH) (r:AQ P Γ rs l):AQ P Γ (.cell t T::rs) (GH::l)
def Xo(tmps:Aw AO):ResultVar->Sem AO
 | .tmp t=>pure<|tmps.getD t undef
 | .cell a t=>do loadVar t (<-asAddr (tmps.getD a undef))
def Vp{bl:A3 Ty}{H':HV}{B:AX P}{v:AO}(h:(AJ.buf E sz bl).holds B a w H v)(hle:HV.le H H')(hw:∀b,v.ownBlock=some b->B.Du b->∀o,w.heap[b]? =some o->H' b=some o):(FY bl).ok H' v:=by
 obtain⟨xs,⟨hx,hc⟩,ho,hn⟩:=h;rcases hc with⟨e,hl⟩|⟨g,cap,cur,e,hB,hg,hcap,hm,hcs,ht⟩
 ·subst e;exact⟨none,0,by rw[hl],by omega,λhne=>absurd (JS hl) hne⟩
 ·subst e;refine⟨_,cap,rfl,hcap,λ_=>⟨g,0,cur,E,(0,0),rfl,hw g rfl (hn g rfl).2 _ hg,?_,?_⟩⟩
  ·have h1:=MT ho;have h2:xs.length<=cur.size:=by rw[<-ht];simp;exact Nat.min_le_right _ _
   omega
  ·have h1:=MT ho;rw[P4,<-h1,hx,ht];exact Pt hle ho
def AQ.run{rs:A3 ResultVar}{l:A3 Ty}(h:AQ P Γ rs l){a:Act}{w:AK}{H:HV}(hs:Sat w0 H0 N Γ a w H):
  ∃vs,(rs.mapM<|Xo a.tmps).run P w= .ok vs w/\EW H l vs:=by
 induction h with
 |nil=>exact⟨[],by simp,rfl⟩
 | @tmp t τ GH rs l h hi _ ih=>
  subst hi;obtain⟨vs,h1,h2⟩:=ih;have hv:τ.ok H (AT a t):=hs.holds _<|Au h
  refine⟨AT a t::vs,?_,_,_,rfl,hv,h2⟩;simp only[List.mapM_cons,Df,h1,Xo,JN,DP]
  rfl
 | @cell t T T' τ GH rs l h hT hi _ ih=>
  subst hi;obtain⟨vs,h1,h2⟩:=ih;obtain⟨b,x,e,hb,hx,hn,hB⟩:=hs.holds _<|Au h
  refine⟨x::vs,?_,_,_,rfl,hx,h2⟩;have e':a.tmps.getD t undef= .pointer (some ⟨b,0,none⟩):=e;simp only[List.mapM_cons,Df,Xo,e',asAddr,JN,DP,hT w b x T' hb<|τ.shape hx,h1]
def QO(P:Bs)(fn:Func)(w0:AX P)(H0:HV)(BP:Res):Exit->Act->AK->Prop:=bodyPostM (FB none) 0 P fn<|Returns w0.w H0 BP
def Uk{w0:AX P}{H0:HV}{N:Nat}{Γ:Ctx}{a:Act}{fn:Func}{R:Ending->AK->Prop}{F:Fence}{n:Nat}(hds:w0.ds=[])(hrd:w0.rd=none):∀{ds:A3 Deferred} {w:AK} {H:HV},Sat w0 H0 N Γ {a with defers:=ds} w H->
  (∀w' H',Sat w0 H0 N Γ {a with defers:=[]} w' H'->∃v,(results fn a.tmps).run P w'= .ok v w'/\R (.returned v) w')->LeavesInM F n P fn a.tmps R ds .returning w
 |[],w,H,hs,k=>k w H hs
 |d::ds,w,H,hs,k=>by
  have Ht:=hs.nd;rw[hds,JQ] at Ht;obtain⟨⟨D,e,h1,h2,h3,h4⟩,hr⟩:=Ht;have h1:=h1 hrd;subst e;refine⟨(by simp),.inl ⟨D,_,rfl,run_takeDeferred h2,?_⟩⟩;refine Uk hds hrd (H:=H) ?_ k;have hg:E9 w (w.putObj D<| .deferred none) (some D):=⟨⟨rfl,rfl,rfl,by simp,λj _ hj=>Yr (λe=>hj (by rw[e]))⟩,Az _⟩;have hne:∀b,b≠D->(w.putObj D<| .deferred none).heap[b]? =w.heap[b]? :=λb hb=>Yr hb
  refine V4 (a:={a with defers:={target:= .collected D,args:= #[]}::ds}) hs (hs.below.Ku hg λj e=>by cases e;exact .inl h1) hg.drawn (λ_ _ _ _=>rfl) (by simp) (HV.le.refl _) ?_ ?_ ?_ ?_
  ·intro r o h;rw[hne r (λe=>by subst e;rw[h3] at h;cases h)];exact hs.sub r o h
  ·intro _ b _ hb;exact⟨hne b (λe=>by subst e;have:=AX.lo_le (b:=w0);omega),rfl⟩
  ·intro p hp;refine⟨hp,λb hb=>⟨hne b λe=>?_,rfl⟩⟩;subst e;obtain⟨_,_,o,ho,JF⟩:=AJ.IP (hs.holds p hp) hb;rw[h2] at ho;cases ho;exact JF
  ·have:∀{l:A3 Deferred},(∀e∈l,e≠{target:= .collected D,args:= #[]})->Marks w0 w H l->Marks w0 (w.putObj D<| .deferred none) H l:=by
    intro l
    induction l with
    |nil=>exact λ_ _=>trivial
    |cons x l ih=>
     rintro hn ⟨⟨D',e,g1,g2,g3,g4⟩,gr⟩;have hD:D'≠D:=λeD=>hn x (by simp) (by rw[e,eD])
     exact⟨⟨D',e,g1,by rw[hne D' hD];exact g2,g3,g4⟩,ih (λy hy=>hn y (by simp[hy])) gr⟩
   rw[hds,JQ];exact this h4 hr
def Xi(hr:fn.results=rs.toArray)(tmps:Aw AO):results fn tmps=(do let vs<-List.toArray<$>rs.mapM (Xo tmps);pure (if h:vs.size=1 then vs[0] else .tuple vs)):=by
 unfold results;rw[hr,List.mapM_toArray]
 congr 2
def akR{BP:A3 Ty}(hX:(w0.X,w0.IF,w0.ds,w0.rd)=(Jj,false,[],none))(hr:fn.results=rs.toArray)(h:AQ P Γ rs BP)(hs:Sat w0 H0 N Γ a w H):
  LeavesInM (FB none) 0 P fn a.tmps (Returns w0.w H0<| .vs BP) a.defers .returning w:=by
 refine Uk (congrArg (λp=>p.2.2.1) hX) (congrArg (λp=>p.2.2.2) hX) (a:=a) (ds:=a.defers) hs λw H hs=>?_
 have hX':w0.X=Jj:=congrArg Prod.fst hX;have hV:w0.IF=false:=congrArg (λp=>p.2.1) hX;obtain⟨vs,h1,h2⟩:=h.run hs;have hl:=RQ h2;rw[Xi hr];simp only[Df,Sem.run_map,h1,DP,JN];refine⟨_,rfl,_,rfl,hs.below.below hX' hV,H,(λr hr=>hs.Ed hV r hr (by rw[hX'];exact λh=>h)),hs.sub,?_⟩
 match BP,h2,hl with
 |[],h2,hl=>
  have:vs=[]:=h2;subst this;exact⟨#[],rfl,rfl⟩
 |[τ],h2,hl=>
  obtain⟨v,rest,e,hv,hr⟩:=h2;have:rest=[]:=hr;subst this;subst e;exact hv
 |τ::GH::l,h2,hl=>
  have: ¬vs.toArray.size=1:=by simp[hl]
  rw[dif_neg this];exact⟨vs.toArray,rfl,by simpa using h2⟩
def afb{l':A3 Ty}(hX:(w0.X,w0.IF,w0.ds,w0.rd)=(Jj,false,[],none))(hr:fn.results=[.tmp t].toArray)(h:look Γ t=some (.buf E sz l))(hi:l=l')(hs:Sat w0 H0 N Γ a w H):
  LeavesInM (FB none) 0 P fn a.tmps (Returns w0.w H0<| .fr E sz l') a.defers .returning w:=by
 subst hi;refine Uk (congrArg (λp=>p.2.2.1) hX) (congrArg (λp=>p.2.2.2) hX) (a:=a) (ds:=a.defers) hs λw H hs=>?_
 have hX':w0.X=Jj:=congrArg Prod.fst hX;have hV:w0.IF=false:=congrArg (λp=>p.2.1) hX;obtain⟨xs,h1,h2,h3⟩:=hs.holds _<|Au h
 rw[Xi hr];refine⟨AT a t,?_,_,rfl,hs.below.below hX' hV,H,(λr hr=>hs.Ed hV r hr (by rw[hX'];exact λh=>h)),hs.sub,xs,h1,h2,λb hb=>⟨?_,(h3 b hb).1⟩⟩
 ·simp[Xo,AT]
 ·rcases(h3 b hb).2 with h|h
  ·exact h
  ·rw[hX'] at h;exact h.elim
def C6{BP:A3 Ty}(hX:(w0.X,w0.IF,w0.ds,w0.rd)=(Jj,false,[],none))(hr:fn.results=rs.toArray)(h:AQ P Γ rs BP):E1 w0 H0 N (λa w=>QO P fn w0 H0 (.vs BP) .ret a w) Γ:=λ_ _ _ hs=>akR hX hr h hs
def Vy{l':A3 Ty}(hX:(w0.X,w0.IF,w0.ds,w0.rd)=(Jj,false,[],none))(hr:fn.results=[.tmp t].toArray)(h:look Γ t=some (.buf E sz l))(hi:l=l'):E1 w0 H0 N (λa w=>QO P fn w0 H0 (.fr E sz l') .ret a w) Γ:=λ_ _ _ hs=>afb hX hr h hi hs
def afI{f:FuncId}{BP:Res}{N:Nat}(hf:P.funcs[f]? =some fn)(hb:fn.body=some c)(hN:fn.ntmps=N)(hn:args.length<=N)(hc:GA P f=true)
 (h:∀w0 H0,Goal P (AX.call P w0) H0 N c (QO P fn (AX.call P w0) H0 BP)<|Gy 0 args):EE P f args BP:=by
 subst hN;exact⟨hc,λw H _ sub gl Al=>(callsIn_wide (n:=0)).1<|callsIn_of_wp_marks (F:=Fence.wide) hf hb trivial<|h w H _ w H<|vg sub gl Al hn⟩
end
section
variable[D:DR]
variable{P:Program}{N:Nat}{ops:Array Oper}{Γ Ae:Ctx}
variable{s:AJ}{τ:Ty}
def Lr{o:Oper}(h:∀(w0:AX P) (H0:HV) (N:Nat) (a:Act) (w:AK) (H:HV),Sat w0 H0 N Γ a w H->
 ∃v w' H',(execOp a.eval o).run P w= .ok (.value v) w'/\Ext w H w' H'/\s.holds w0 a w' H' v/\∀b,s.owns w' v b->w.heap.size<=b):Aq P Γ o s:=by
 intro w0 H0 N a w H hs K Q k;obtain⟨v,w',H',hr,he,hv,hb⟩:=h w0 H0 N a w H hs;unfold Oper.wp;rw[hr,Nu];exact k v w' H' he hv hb
def DL{o:Oper}(h:∀(w0:AX P) (H0:HV) (N:Nat) (a:Act) (w:AK) (H:HV),Sat w0 H0 N Γ a w H->
 ∃v,(execOp a.eval o).run P w= .ok (.value v) w/\s.holds w0 a w H v/\s.free=true):Aq P Γ o s:=
 Lr λw0 H0 N a w H hs=>by
  obtain⟨v,hr,hv,hb⟩:=h w0 H0 N a w H hs;exact⟨v,w,H,hr,Ext.refl hs.sub,hv,λb e=>absurd e<|AJ.free_spec hb⟩
def ah5{o:Oper}(h:∀(w0:AX P) (H0:HV) (N:Nat) (a:Act) (w:AK) (H:HV),Sat w0 H0 N Γ a w H->
 ∃v,(execOp a.eval o).run P w= .ok (.value v) w/\s.holds w0 a w H v/\∀b,¬s.owns w v b):Aq P Γ o s:=
 Lr λw0 H0 N a w H hs=>by
  obtain⟨v,hr,hv,hb⟩:=h w0 H0 N a w H hs;exact⟨v,w,H,hr,Ext.refl hs.sub,hv,λb e=>absurd e<|hb b⟩
structure Arg(Γ:Ctx)(x:Bu)(τ:Ty):Prop where
 ok:∀{P':Bs} {w0:AX P'} {H0:HV} {N:Nat} {a:Act} {w:AK} {H:HV},Sat w0 H0 N Γ a w H->τ.ok H (a.eval x)
def Arg.t{t:Nat}{τ:Ty}(h:look Γ t=some (.val τ)):Arg Γ (.tmp t) τ:=⟨λhs=>hs.holds _<|Au h⟩
def Arg.o{t:Nat}{c:Bool}(h:look Γ t=some (.opt c<| .val τ))(hc:c=true):Arg Γ (.tmp t) τ:=⟨λhs=>(hs.holds _<|Au h).1 hc⟩
def Arg.int{k:IntKind}{n:Int}:Arg Γ (.const<| .int k n) (TI k n):=⟨λ_=>rfl⟩
def Arg.bool{b:Bool}:Arg Γ (.const<| .bool b) (Ar b):=⟨λ_=>rfl⟩
def Arg.aoU:Arg Γ (.const<| .slice none 0 0) (FY []):=⟨λ_=>⟨none,0,rfl,Az _,λh=>absurd rfl h⟩⟩
def Arg.imp{x:Bu}{GH:Ty}(h:Arg Γ x τ)(hi:∀H v,τ.ok H v->GH.ok H v):Arg Γ x GH:=⟨λhs=>hi _ _<|h.ok hs⟩
end
section
variable[D:DR]
variable{P:Program}{N:Nat}{ops:Array Oper}{Γ Ae:Ctx}
variable{d:Option Tmp}{ty:TypeId}{pos:String}{af:Array Edge}{g:Option (Nat×Bool)}
variable{T:Af}{τ:Ty}{t sz off:Nat}{x:Bu}{l:A3 Ty}{b:Bool}{σ:Ty}{k:IntKind}{i:Int}{n:Nat}{T':Af}{len:Nat}{c:Bu}{w:AK}{cs:Aw AO}{t' o:Nat}{H:HV}{ix:Bu}
def o0(h:Arg Γ x τ):Aq P Γ ⟨d,.move x,ty,pos,af,g⟩ (.val τ):=
 DL λ_ _ _ a _ _ hs=>⟨a.eval x,rfl,h.ok hs,rfl⟩
def B9(h:Arg Γ x τ):Aq P Γ ⟨d,.assign x,ty,pos,af,g⟩ (.val τ):=
 DL λ_ _ _ a _ _ hs=>⟨a.eval x,rfl,h.ok hs,rfl⟩
def Ot(h:look Γ t=some (.Kz l)):Aq P Γ ⟨d,.move<| .tmp t,ty,pos,af,g⟩ (.Kz l):=
 DL λ_ _ _ a _ _ hs=>⟨AT a t,rfl,hs.holds _<|Au h,rfl⟩
def H8{i:Nat}(h:look Γ t=some (.Kz l))(hi:l[i]? =some τ):Aq P Γ ⟨d,.extract (.tmp t) i,ty,pos,af,g⟩ (.val τ):=
 DL λ_ _ _ a w _ hs=>by
  obtain⟨vs,e,ho⟩:=hs.holds _<|Au h
  obtain⟨v,hv,Al⟩:=zJ ho hi;have e':a.eval (.tmp t)= .tuple vs:=e;refine⟨v,?_,Al,rfl⟩;have Im:vs[i]? =some v:=by simpa using hv
  simp[execOp,e',Instr.extract,Im]
def eX{y:Bu}(hc:Arg Γ c (Ar b))(hx:b=true->Arg Γ x τ)(hy:b=false->Arg Γ y τ):Aq P Γ ⟨d,.pick c x y,ty,pos,af,g⟩ (.val τ):=
 DL λ_ _ _ a w H hs=>by
  have e:a.eval c= .bool b:=hc.ok hs;refine⟨if b then a.eval x else a.eval y,?_,?_,rfl⟩
  ·simp[execOp,e,asBool]
  ·cases b
   ·simpa[AJ.holds] using(hy rfl).ok hs
   ·simpa[AJ.holds] using(hx rfl).ok hs
def Ch(h:b=true):gd b true=true:=h
def Ci(h:b=false):gd b false=true:=by subst h;rfl
def OI{c:Bool}(h:b=true)(k:c=true):(b&&c)=true:=by subst h;subst k;rfl
def Cd{e x:Bool}(hc:Arg Γ c (Ar b))(hx:look Γ t=some (.opt e<| .val<|Ar x))(he:b=true->e=true):Aq P Γ ⟨d,.pick c (.tmp t)<| .const<| .bool false,ty,pos,af,g⟩ (.val<|Ar<|b&&x):=by
 cases b
 ·exact eX hc (λh=>by cases h)<|λ_=>Arg.bool
 ·exact eX hc (λ_=>by simpa using Arg.o hx (he rfl)) (λh=>by cases h)
def Cf{e x:Bool}(hc:Arg Γ c (Ar b))(hx:look Γ t=some (.opt e<| .val<|Ar x))(he:b=false->e=true):Aq P Γ ⟨d,.pick c (.const<| .bool true)<| .tmp t,ty,pos,af,g⟩ (.val<|Ar (b||x)):=by
 cases b
 ·exact eX hc (λh=>by cases h) (λ_=>by simpa using Arg.o hx (he rfl))
 ·exact eX hc (λ_=>Arg.bool) (λh=>by cases h)
def at4:TypeDesc->Bool
 | .struct _| .array _ _=>true
 |_=>false
def BX(P:Bs)(T:Af)(n:Nat)(agg:Bool):Bool:=
 match P.info? T,P.underlying T with
 |some i,some d=>Nat.beq i.size n&&(at4 d==agg)&&(agg||Nat.beq n 1)
 |_,_=>false
def EY{d:TypeDesc}(h:P.underlying T=some d)(w:AK):(underlying T).run P w= .ok d w:=by
 simp[underlying,program,Sem.run,h]
def wy{agg:Bool}(h:BX P T n agg=true):
  (∀w,(isAgg T).run P w= .ok agg w)/\(∀w,(Go.sizeOf T).run P w= .ok n w)/\(agg=false->n=1):=by
 unfold BX at h;split at h
 ·rename_i i dd hi hu;simp only[BU,Kf,Q5] at h;obtain⟨⟨h1,h2⟩,h3⟩:=h;have h1:=Dj h1;refine⟨λw=>?_,λw=>?_,λhf=>?_⟩
  ·simp only[isAgg,Df,EY hu,DP];subst h2;cases dd<;>rfl
  ·simp[Go.sizeOf,typeInfo,program,Sem.run,hi];simp[h1]
  ·rcases h3 with h3|h3
   ·rw[hf] at h3;cases h3
   ·exact Dj h3
 ·cases h
def Qp{agg:Bool}(h:BX P T n agg=true){b:Nat}{E:Af}{fr:Nat×Nat}(hb:w.heap[b]? =some (.cells cs E fr))(hl:off+n<=cs.size):
  (loadVar T ⟨b,off,none⟩).run P w= .ok (GL agg ((cs.toList.drop off).take n).toArray) w:=by
 obtain⟨h1,h2,h3⟩:=wy h;have aaJ:∀j v,((cs.toList.drop off).take n)[j]? =some v->w.cell? ((⟨b,off,none⟩:Addr).add j)=some v:=by
  intro j v hj;have Zi:(⟨b,off,none⟩:Addr).add j=⟨b,off+j,none⟩:=by unfold Addr.add;split<;>simp_all
  rw[Zi];rw[QA] at hj;split at hj
  ·simp at hj;simp[World.cell?,hb,hj]
  ·cases hj
 have hlen:((cs.toList.drop off).take n).length=n:=by simp;omega
 cases agg
 ·have hn:=h3 rfl;subst hn;have hlt:off<cs.size:=by omega
  have hc:=aaJ 0 cs[off] (by simp[hlt]);have Zi:(⟨b,off,none⟩:Addr).add 0=⟨b,off,none⟩:=rfl;rw[Zi] at hc;simp only[loadVar,Df,h1,DP];simp[load,Sem.run,hc,GL,hlt]
 ·have:=run_loadCells_list (P:=P) w ⟨b,off,none⟩ _ aaJ;rw[hlen] at this;simp only[loadVar,Df,h1,h2,DP,if_true,this]
  rfl
def ux{x:AO}(hn:x.cells.size=n):((x.cells.toList.drop 0).take n).toArray=x.cells:=by
 rw[P4,CB (by simp;omega)]
def F7{agg:Bool}(h:BX P T n agg=true)(w:AK)(b:Nat)(x:AO)(E:Af)(hb:w.heap[b]? =some (.cells x.cells E (0,0)))(hx:Shape n agg x):(loadVar T ⟨b,0,none⟩).run P w= .ok x w:=by
 rw[Qp h hb (by rw[hx.size];omega),ux hx.size,<-hx.eq]
def BF(τ:Ty)(off:Nat)(σ:Ty):Prop:=∀(H:HV) (v:AO),τ.ok H v->off+σ.n<=v.cells.size/\σ.ok H (GL σ.agg ((v.cells.toList.drop off).take σ.n).toArray)
def BF.agg{i:Nat}(h:l[i]? =some σ)(ho:Bx (l.take i)=off):BF (Co l) off σ:=by
 rintro H v ⟨cs,e,ok⟩;subst e;subst ho;have:=My ok h;simpa[Value.cells] using this
def XQ:(GL true cs).cells=cs:=rfl
def BF.trans{ρ:Ty}{o1 o2:Nat}(h:BF τ o1 σ)(ha:σ.agg=true)(k:BF σ o2 ρ):BF τ (o1+o2) ρ:=λH v hv=>by
 obtain⟨h1,h2⟩:=h H v hv;obtain⟨k1,k2⟩:=k H _ h2;rw[ha] at k1 k2;simp only[XQ] at k1 k2;have hlen:(List.take σ.n<|List.drop o1 v.cells.toList).toArray.size=σ.n:=by simp;omega
 rw[hlen] at k1;refine⟨by omega,?_⟩;have:List.take ρ.n (List.drop o2<|List.take σ.n<|List.drop o1 v.cells.toList)=List.take ρ.n (List.drop (o1+o2) v.cells.toList):=by
  rw[Lz,NA,F4]
  congr 1
  omega
 simpa[this] using k2
def An(h:look Γ t=some (.own T' τ))(hT:BX P T τ.n τ.agg=true):Aq P Γ ⟨d,.load T<| .tmp t,ty,pos,af,g⟩ (.val τ):=
 DL λ_ _ _ a w _ hs=>by
  obtain⟨b,x,e,hb,hx,_,_⟩:=hs.holds _<|Au h
  have e':a.eval (.tmp t)= .pointer (some ⟨b,0,none⟩):=e;refine⟨x,?_,hx,rfl⟩;simp[execOp,e',Instr.loadAt,Instr.sureAddr,F7 hT w b x T' hb<|τ.shape hx]
def FZ(h:look Γ t=some (.ptr t' off))(h':look Γ t'=some (.own T' τ))(hp:BF τ off σ)(hT:BX P T σ.n σ.agg=true):Aq P Γ ⟨d,.load T<| .tmp t,ty,pos,af,g⟩ (.val σ):=
 DL λ_ _ _ a w _ hs=>by
  obtain⟨b,x,e,hb,hx,_,_⟩:=hs.holds _<|Au h'
  obtain⟨b',e1,e2⟩:=hs.holds _<|Au h
  simp only at e e1;rw[e] at e1;cases e1;have e':a.eval (.tmp t)= .pointer (some ⟨b,off,none⟩):=e2;obtain⟨h1,h2⟩:=hp _ _ hx;refine⟨_,?_,h2,rfl⟩;simp[execOp,e',Instr.loadAt,Instr.sureAddr,Qp hT hb h1]
def BY(h:Arg Γ x (JZ τ))(hT:BX P T τ.n τ.agg=true):Aq P Γ ⟨d,.load T x,ty,pos,af,g⟩ (.val τ):=
 DL λ_ _ _ a w _ hs=>by
  obtain⟨b,off,cs,E,fr,e,hb,hl,hx⟩:=h.ok hs;refine⟨_,?_,hx,rfl⟩;simp[execOp,e,Instr.loadAt,Instr.sureAddr,Qp hT (hs.sub _ _ hb) hl]
def G5(P:Bs)(T:Af)(k off:Nat):Bool:=
 match P.underlying T with
 |some (.struct fs)=>match fs[k]? with
  |some f=>Nat.beq f.offset off&&(match P.info? f.type with|some i=> !Nat.beq i.size 0|none=>false)
  |none=>false
 |_=>false
def addr_add(b off n:Nat):(⟨b,off,none⟩:Addr).add n=⟨b,off+n,none⟩:=by unfold Addr.add;split<;>simp_all
def Xa{k:Nat}(h:G5 P T k off=true)(b o:Nat)(w:AK):(Instr.fieldAt T (.pointer<|some ⟨b,o,none⟩) k).run P w= .ok (.pointer<|some ⟨b,o+off,none⟩) w:=by
 unfold G5 at h;split at h
 ·rename_i fs hu;split at h
  ·rename_i f hf;simp only[BU] at h;obtain⟨h1,h2⟩:=h;have h1:=Dj h1;split at h2
   ·rename_i i hi;have hne:i.size≠0:=by
     intro e;rw[e] at h2;simp at h2
    simp[Instr.fieldAt,EY hu,hf,Instr.sureAddr,fieldPlace,Go.sizeOf,typeInfo,program,Sem.run,hi,hne,addr_add,h1]
   ·cases h2
  ·cases h
 ·cases h
def FH{k:Nat}(h:look Γ t=some (.own T' τ))(hf:G5 P T k off=true):Aq P Γ ⟨d,.fieldAddr T (.tmp t) k,ty,pos,af,g⟩ (.ptr t off):=
 DL λ_ _ _ a w _ hs=>by
  obtain⟨b,x,e,hb,hx,_,_⟩:=hs.holds _<|Au h
  have e':a.eval (.tmp t)= .pointer (some ⟨b,0,none⟩):=e;exact⟨.pointer<|some ⟨b,0+off,none⟩,by simp[execOp,e',Xa hf],⟨b,e,by simp⟩,rfl⟩
def Od{k:Nat}(h:look Γ t=some (.ptr t' o))(hf:G5 P T k off=true):Aq P Γ ⟨d,.fieldAddr T (.tmp t) k,ty,pos,af,g⟩ (.ptr t'<|o+off):=
 DL λ_ _ _ a w _ hs=>by
  obtain⟨b,e1,e2⟩:=hs.holds _<|Au h
  have e':a.eval (.tmp t)= .pointer (some ⟨b,o,none⟩):=e2;exact⟨.pointer<|some ⟨b,o+off,none⟩,by simp[execOp,e',Xa hf],⟨b,e1,rfl⟩,rfl⟩
def aiQ(hp:BF τ o σ){b:Nat}{E:Af}{fr:Nat×Nat}(hb:H b=some (.cells cs E fr))(hl:off+τ.n<=cs.size)(ha:τ.agg=true)(hx:τ.ok H (GL τ.agg ((cs.toList.drop off).take τ.n).toArray)):
  (JZ σ).ok H (.pointer<|some ⟨b,off+o,none⟩):=by
 rw[ha] at hx;obtain⟨h1,h2⟩:=hp _ _ hx;simp only[XQ] at h1 h2;have hlen:(List.take τ.n<|List.drop off cs.toList).toArray.size=τ.n:=by simp;omega
 rw[hlen] at h1;refine⟨b,off+o,cs,E,fr,rfl,hb,by omega,?_⟩;have:List.take σ.n (List.drop o<|List.take τ.n<|List.drop off cs.toList)=List.take σ.n (List.drop (off+o) cs.toList):=by
  rw[Lz,NA,F4]
  congr 1
  omega
 simpa[this] using h2
def Lp{k:Nat}(h:Arg Γ x (JZ τ))(ha:τ.agg=true)(hp:BF τ off σ)(hf:G5 P T k off=true):Aq P Γ ⟨d,.fieldAddr T x k,ty,pos,af,g⟩ (.val<|JZ σ):=
 DL λ_ _ _ a w _ hs=>by
  obtain⟨b,o,cs,E,fr,e,hb,hl,hx⟩:=h.ok hs;exact⟨.pointer<|some ⟨b,o+off,none⟩,by simp[execOp,e,Xa hf],aiQ hp hb hl ha hx,rfl⟩
def Kw(P:Bs)(T:Af)(len sz:Nat):Bool:=
 match P.underlying T with
 |some (.array n e)=>Nat.beq n len&&(match P.info? e with|some i=>Nat.beq i.size sz|none=>false)
 |_=>false
def Fl(P:Bs)(T:Af)(sz:Nat):Bool:=
 match P.underlying T with
 |some (.slice e)=>(match P.info? e with|some i=>Nat.beq i.size sz|none=>false)
 |_=>false
def nH(h:Kw P T len sz=true):∃e i,P.underlying T=some (.array len e)/\P.info? e=some i/\i.size=sz:=by
 unfold Kw at h;split at h
 ·rename_i n e hu;simp only[BU] at h;obtain⟨h1,h2⟩:=h;have h1:=Dj h1;subst h1;split at h2
  ·rename_i i hi;exact⟨e,i,hu,hi,Dj h2⟩
  ·cases h2
 ·cases h
def na(h:Fl P T sz=true):∃e i,P.underlying T=some (.slice e)/\P.info? e=some i/\i.size=sz:=by
 unfold Fl at h;split at h
 ·rename_i e hu;split at h
  ·rename_i i hi;exact⟨e,i,hu,hi,Dj h⟩
  ·cases h
 ·cases h
def rb(h:Kw P T len sz=true)(b o:Nat)(h0:0<=i)(h1:i<len)(w:AK):
  (Instr.indexAt T (.pointer<|some ⟨b,o,none⟩)<| .int k i).run P w= .ok (.pointer<|some ⟨b,o+i.toNat*sz,none⟩) w:=by
 obtain⟨e,ii,hu,hi,hs⟩:=nH h;simp[Instr.indexAt,asIntOf,EY hu,Instr.sureAddr,h0,h1,Go.sizeOf,typeInfo,program,Sem.run,hi,hs,addr_add]
def jr(h:Fl P T sz=true)(b o len cap:Nat)(h0:0<=i)(h1:i<len)(w:AK):
  (Instr.indexAt T (.slice (some ⟨b,o,none⟩) len cap)<| .int k i).run P w= .ok (.pointer<|some ⟨b,o+i.toNat*sz,none⟩) w:=by
 obtain⟨e,ii,hu,hi,hs⟩:=na h;simp[Instr.indexAt,asIntOf,EY hu,h0,h1,Go.sizeOf,typeInfo,program,Sem.run,hi,hs,addr_add]
def tM(h:look Γ t=some (.own T' τ))(hT:Kw P T len sz=true)(hi:Arg Γ ix (TI k i))(h0:0<=i)(h1:i<len):
  Aq P Γ ⟨d,.indexAddr T (.tmp t) ix,ty,pos,af,g⟩ (.ptr t<|i.toNat*sz):=
 DL λ_ _ _ a w _ hs=>by
  obtain⟨b,x,e,hb,hx,_,_⟩:=hs.holds _<|Au h
  have e':a.eval (.tmp t)= .pointer (some ⟨b,0,none⟩):=e;have ei:a.eval ix= .int k i:=hi.ok hs;exact⟨.pointer<|some ⟨b,0+i.toNat*sz,none⟩,by simp[execOp,e',ei,rb hT b 0 h0 h1],⟨b,e,by simp⟩,rfl⟩
def Oc(h:look Γ t=some (.ptr t' o))(hT:Kw P T len sz=true)(hi:Arg Γ ix (TI k i))(h0:0<=i)(h1:i<len):
  Aq P Γ ⟨d,.indexAddr T (.tmp t) ix,ty,pos,af,g⟩ (.ptr t'<|o+i.toNat*sz):=
 DL λ_ _ _ a w _ hs=>by
  obtain⟨b,e1,e2⟩:=hs.holds _<|Au h
  have e':a.eval (.tmp t)= .pointer (some ⟨b,o,none⟩):=e2;have ei:a.eval ix= .int k i:=hi.ok hs;exact⟨.pointer<|some ⟨b,o+i.toNat*sz,none⟩,by simp[execOp,e',ei,rb hT b o h0 h1],⟨b,e1,rfl⟩,rfl⟩
def Fo(sz:Nat)(l:A3 Ty):Prop:=∀τ∈l,τ.n=sz
def Js{sz:Nat}:∀{l:A3 Ty},Fo sz l->Bx l=l.length*sz
 |[],_=>by simp
 |τ::l,h=>by
  have h1:=h τ (by simp);have h2:=Js (l:=l) (λx hx=>h x (by simp[hx]));simp[h1,h2,Iv];omega
def Fo.take{sz:Nat}{l:A3 Ty}(h:Fo sz l)(i:Nat):Fo sz (l.take i):=λτ ht=>h τ<|OA ht
def JL{α:Type _}{f:α->Ty}(h:∀x,(f x).n=sz)(l:A3 α):Fo sz (l.map f):=λτ ht=>by
 obtain⟨x,_,e⟩:=BI.1 ht;exact e▸h x
def aej(h:Arg Γ x (FY l))(hT:Fl P T sz=true)(hu:Fo sz l)(hi:Arg Γ ix (TI k i))(h0:0<=i)(hl:l[i.toNat]? =some σ):
  Aq P Γ ⟨d,.indexAddr T x ix,ty,pos,af,g⟩ (.val<|JZ σ):=
 DL λ_ _ _ a w _ hs=>by
  obtain⟨ad,cap,e,_,hx⟩:=h.ok hs;have hlt:=(EC.1 hl).1;obtain⟨b,o,cs,E,fr,e1,hb,hsz,ho⟩:=hx (λe=>by rw[e] at hlt;simp at hlt);subst e1;have ei:a.eval ix= .int k i:=hi.ok hs;have h1:i<l.length:=by omega
  obtain⟨p1,p2⟩:=My ho hl;have hc:Bx (l.take i.toNat)=i.toNat*sz:=by
   rw[Js<|hu.take _,DI,Dt (by omega)]
  rw[hc] at p1 p2;have hlen:(List.take (Bx l)<|List.drop o cs.toList).length=Bx l:=by simp;omega
  rw[hlen] at p1;refine⟨.pointer<|some ⟨b,o+i.toNat*sz,none⟩,by simp[execOp,e,ei,jr hT b o l.length cap h0 h1],⟨b,_,cs,E,fr,rfl,hb,by omega,?_⟩,rfl⟩;have:List.take σ.n (List.drop (i.toNat*sz)<|List.take (Bx l)<|List.drop o cs.toList)=List.take σ.n (List.drop (o+i.toNat*sz) cs.toList):=by
   rw[Lz,NA,F4]
   congr 1
   omega
  rw[this] at p2;exact p2
inductive AL(Γ:Ctx):A3 Bu->A3 Ty->Prop where
 |nil:AL Γ [] []
 |cons {x:Bu} {τ:Ty} {xs:A3 Bu} {l:A3 Ty} (h:Arg Γ x τ) (r:AL Γ xs l):AL Γ (x::xs) (τ::l)
def AL.ok{xs:A3 Bu}{l:A3 Ty}(h:AL Γ xs l){w0:AX P}{H0:HV}{N:Nat}{a:Act}{w:AK}{H:HV}(hs:Sat w0 H0 N Γ a w H):EW H l (xs.map a.eval):=by
 induction h with
 |nil=>rfl
 |cons h _ ih=>exact⟨_,_,rfl,h.ok hs,ih⟩
def IA:A3 Ty->AJ
 |[τ]=> .val τ
 |l=> .Kz l
def qH:Res->AJ
 | .vs l=>IA l
 | .fr E sz l=> .buf E sz l
def Uo{BP:A3 Ty}{v:AO}{B:AX P}{a:Act}(h:Kr H BP v):(IA BP).holds B a w H v:=by
 match BP,h with
 |[],h=>exact h
 |[_],h=>exact h
 |_::_::_,h=>exact h
def Uv{BP:A3 Ty}:(IA BP).free=true:=by
 match BP with
 |[]=>rfl
 |[_]=>rfl
 |_::_::_=>rfl
def Ob{f:FuncId}(h:GA P f=true)(args:Aw AO)(w:AK):(callFunc f args).run P w= .ok (.enter f args) w:=by
 unfold GA at h;split at h
 ·rename_i fn hf;simp only[BU,F6] at h;have hb:fn.body.isNone=false:=by cases hx:fn.body<;>simp[hx] at h⊢
  have h1:fn.name≠ "runtime.NumGoroutine" :=by simpa using h.2
  have h2:fn.body≠none:=by intro e;rw[e] at hb;cases hb
  simp[callFunc,program,Sem.run,hf,h1,h2]
 ·cases h
def Fa{f:FuncId}{xs:A3 Bu}{Ec:Aw Af}{args:A3 Ty}{BP:Res}(hf:EE P f args BP)(ha:AL Γ xs args):
  Aq P Γ ⟨d,.call ⟨.value<| .func f,xs.toArray,Ec⟩,ty,pos,af,g⟩ (qH BP):=by
 intro w0 H0 N a w H hs K Q k;unfold Oper.wp;have e:execOp a.eval ⟨d,.call ⟨.value<| .func f,xs.toArray,Ec⟩,ty,pos,af,g⟩=callFunc f (#[]++xs.toArray.map a.eval++ #[]):=rfl;rw[e,Ob hf.can,VT];have e2:(#[]++xs.toArray.map a.eval++ #[])=(xs.map a.eval).toArray:=by simp
 rw[e2];refine(hf.run w H _ hs.sub hs.gl<|ha.ok hs).mono ?_;rintro e w' ⟨v,rfl,hb,H',h1,h2,h3⟩;have he:Ext w H w' H':=⟨hb,λr o h=>by rw[h1 r<|Gk hs.sub h];exact h,h1,h2⟩;cases BP with
 |vs l=>exact k v w' H' he (Uo h3)<|λb e=>absurd e<|AJ.free_spec (s:=IA l) Uv
 |fr E sz l=>
  obtain⟨xs,k1,k2,k3⟩:=h3;exact k v w' H' he ⟨xs,k1,k2,λb hb=>⟨(k3 b hb).2,.inl<|CX hs.below.size (k3 b hb).1⟩⟩<|λb e=>(k3 b e).1
def sj{i:TypeInfo}{z:AO}(hi:P.info? T=some i)(hz:i.zero=some z)(w:AK):(zeroValue T).run P w= .ok z w:=by
 simp[zeroValue,typeInfo,program,Sem.run,hi,hz]
structure DS(P:Bs)(T:Af)(τ:Ty):Prop where
 run:∀w,∃z,(zeroValue T).run P w= .ok z w/\∀H,τ.ok H z
def FA(z:AO)(h:(P.info? T).bind (·.zero)=some z)(hz:∀H,τ.ok H z):DS P T τ:=⟨λw=>by
 cases hi:P.info? T with
 |none=>rw[hi] at h;cases h
 |some i=>rw[hi] at h;exact⟨z,sj hi h w,hz⟩⟩
def Ls(h:DS P T τ):Aq P Γ ⟨d,.alloc T,ty,pos,af,g⟩ (.own T τ):=
 Lr λw0 _ _ a w H hs=>by
  obtain⟨z,hr,hz⟩:=h.run w;refine⟨.pointer<|some ⟨w.heap.size,0,none⟩,w.alloc<| .cells z.cells T,H,?_,Ext.alloc hs.sub _,?_,?_⟩
  ·simp[execOp,Instr.alloc,hr,newVar,newRow]
  ·refine⟨w.heap.size,z,rfl,LF w _,hz H,?_,.inl hs.below.size⟩;cases hh:H w.heap.size with
   |none=>rfl
   |some o=>have:=Gk hs.sub hh;omega
  ·rintro b ⟨ad,e,hb⟩;cases e;simp at hb;omega
def amS(h:Arg Γ x τ):Aq P Γ ⟨d,.box T x,ty,pos,af,g⟩ (.own T τ):=
 Lr λw0 _ _ a w H hs=>by
  refine⟨.pointer<|some ⟨w.heap.size,0,none⟩,w.alloc<| .cells (a.eval x).cells T,H,?_,Ext.alloc hs.sub _,?_,?_⟩
  ·simp[execOp,Instr.box,newVar,newRow]
  ·refine⟨w.heap.size,a.eval x,rfl,LF w _,h.ok hs,?_,.inl hs.below.size⟩;cases hh:H w.heap.size with
   |none=>rfl
   |some o=>have:=Gk hs.sub hh;omega
  ·rintro b ⟨ad,e,hb⟩;cases e;simp at hb;omega
end
section
variable[D:DR]
variable{P:Program}{N:Nat}{ops:Array Oper}{Γ Ae:Ctx}{d:Option Tmp}{ty:TypeId}{pos:String}{af:Array Edge}{g:Option (Nat×Bool)}
variable{T:Af}{x:Bu}{T':Af}{y:Bu}{n m:Int}{k:IntKind}{σ:Ty}{t:Nat}{τ:Ty}{w:AK}{off:Nat}{w0:AX P}{H0:HV}{a:Act}{H:HV}{w':AK}{row:A6 Nat}{s:AJ}{v:AO}{l:A3 Ty}{ρ:Ty}{p:Nat}{GH:Ty}
def pJ{d:Nat}{Γ:Ctx}{p:Nat×AJ}(h:p∈del d Γ):p.1≠d/\d∉p.2.Bn:=Xd Ox p h
def wD(hs:Sat w0 H0 N Γ a w H)(hg:E9 w w' row)(Gz:∀b,row=some b->w0.Du b/\H b=none/\∀l,w.heap[b]? ≠some (.deferred l))
 (B0:∀p∈Ae,p∈Γ/\∀b,p.2.owns w (AT a p.1) b->row≠some b):Sat w0 H0 N Ae a w' H:=by
 have Dh:∀b,b<w.heap.size->row≠some b->w'.heap[b]? =w.heap[b]? :=λb hb hn=>hg.block b hb<|λe=>hn e.symm
 refine V4 (ds:=a.defers) hs (hs.below.Ku hg<|λk hk=>(Gz k hk).1) hg.drawn (λ_ _ _ _=>rfl) hg.size (HV.le.refl _) ?_ ?_ ?_ ?_
 ·intro r o h;rw[Dh r (Gk hs.sub h) (λe=>by have:=(Gz r e).2.1;rw[this] at h;cases h)];exact hs.sub r o h
 ·intro _ b hb FG;exact⟨Dh b hb (λe=>by have:=AX.Q2 (Gz b e).1;omega),rfl⟩
 ·intro p hp;exact⟨(B0 p hp).1,λb hb=>⟨Dh b (AJ.IP (hs.holds p (B0 p hp).1) hb).1<|(B0 p hp).2 b hb,rfl⟩⟩
 ·exact hs.nd.kept λD _ h1 h2=>⟨by rw[Dh D (lt_of_heap h1)<|λe=>(Gz D e).2.2 _ h1];exact h1,h2⟩
def Ps(h:Sat w0 H0 N Γ a w H){d:Nat}(hd:d<N)(hf:J1 d Γ=true)(hl:d∉s.Bn)
 (hs:s.holds w0 a w H v)(hfr:∀b,s.owns w v b->∀q∈Γ,¬q.2.owns w (AT a q.1) b):Sat w0 H0 N ((d,s)::Γ) (a.put (some d) v) w H:=te h hd hf hl hs hfr
def Oa{b:Nat}{s':AJ}(hs:Sat w0 H0 N Γ a w H)(ht:(t,s)∈Γ)(hg:E9 w w' (some b))(hb:w0.Du b)(hob:s.owns w (AT a t) b)
 (CG:s'.holds w0 a w' H (AT a t))(JF:∀c,s'.owns w' (AT a t) c->s.owns w (AT a t) c\/w.heap.size<=c):Sat w0 H0 N ((t,s')::B4 t Γ) a w' H:=by
 obtain⟨h1,h2,o,h3,h4⟩:=AJ.IP (hs.holds _ ht) hob;have other:∀q∈B4 t Γ,∀c,s.owns w (AT a t) c-> ¬q.2.owns w (AT a q.1) c:=λq hq c hc=>hs.sep _ ht q (Cq q hq).1 (λe=>(Cq q hq).2 e.symm) c hc
 have Hj:Sat w0 H0 N (B4 t Γ) a w' H:=by
  refine wD hs hg (λc hc=>by cases hc;exact⟨hb,h2,λl e=>by rw[h3] at e;cases e;exact h4⟩)<|λq hq=>⟨(Cq q hq).1,λc hc e=>?_⟩
  cases e;exact other q hq b hob hc
 have back:∀q∈B4 t Γ,∀c,q.2.owns w' (AT a q.1) c->q.2.owns w (AT a q.1) c:=λq hq c hc=>by
  refine((AJ.Xs (w':=w') (H':=H) (hs.holds q (Cq q hq).1) ?_).2 c).1 hc;refine⟨hg.size,hg.os,hg.tape,hg.output,hg.drawn,HV.le.refl _,?_,λ_ _ _=>rfl,Hj.sub⟩;intro c hc1 Fm;refine hg.block c hc1<|λe=>?_
  cases e;rcases Fm with Fm|Fm
  ·have:=AX.Q2 hb;omega
  ·exact other q hq b hob Fm
 refine⟨Hj.nd,Hj.sz,Hj.below,Hj.Ed,Hj.sub,?_,?_,Hj.gl⟩
 ·intro q hq;rcases Ag.1 hq with eq|hq
  ·subst eq;exact CG
  ·exact Hj.holds q hq
 ·have key:∀q∈B4 t Γ,∀c,s'.owns w' (AT a t) c-> ¬q.2.owns w' (AT a q.1) c:=λq hq c hc Dl=>by
   rcases JF c hc with h|h
   ·exact other q hq c h<|back q hq c Dl
   ·have:=(AJ.IP (hs.holds q (Cq q hq).1)<|back q hq c Dl).1;omega
  intro q hq r hr hne c hc Dl;rcases Ag.1 hq with eq|hq<;>rcases Ag.1 hr with er|hr
  ·subst eq;subst er;exact hne rfl
  ·subst eq;exact key r hr c hc Dl
  ·subst er;exact key q hq c Dl hc
  ·exact Hj.sep q hq r hr hne c hc Dl
def ah2(hs:Sat w0 H0 N Γ a w H)(hg:E9 w w' row)(Gz:∀b,row=some b->w0.Du b/\H b=none)
 {q:Nat×AJ}(hq:q∈Γ)(hn:∀b,q.2.owns w (AT a q.1) b->row≠some b)(c:Nat):q.2.owns w' (AT a q.1) c↔q.2.owns w (AT a q.1) c:=by
 refine(AJ.Xs (w':=w') (H':=H) (hs.holds q hq) ?_).2 c;refine⟨hg.size,hg.os,hg.tape,hg.output,hg.drawn,HV.le.refl _,?_,λ_ _ _=>rfl,?_⟩
 ·intro c hc1 Fm;refine hg.block c hc1<|λe=>?_
  rcases Fm with Fm|Fm
  ·have:=AX.Q2 (Gz c e.symm).1;omega
  ·exact hn c Fm e.symm
 ·intro r o h;rw[hg.block r (Gk hs.sub h) (λe=>by have:=(Gz r e.symm).2;rw[this] at h;cases h)];exact hs.sub r o h
def V2{dd:Nat}{s':AJ}(hs:Sat w0 H0 N Γ a w H)(ht:(t,s)∈Γ)(hg:E9 w w' row)
 (Gz:∀b,row=some b->s.owns w (AT a t) b/\w0.Du b)(Cp:dd<N)(hl:dd∉s'.Bn)(hv:s'.holds w0 a w' H v)(ho:∀b,s'.owns w' v b->s.owns w (AT a t) b\/w.heap.size<=b):
  Sat w0 H0 N ((dd,s')::del dd (B4 t Γ)) (a.put (some dd) v) w' H:=by
 have low:∀b,s.owns w (AT a t) b->b<w.heap.size/\H b=none/\∃o,w.heap[b]? =some o/\Z8 o:=λb h=>AJ.IP (hs.holds _ ht) h
 have sub:∀q∈del dd (B4 t Γ),q∈Γ/\∀b,s.owns w (AT a t) b-> ¬q.2.owns w (AT a q.1) b:=λq hq=>by
  have h1:=Cq q<|M3 q hq
  exact⟨h1.1,λb hb=>hs.sep _ ht q h1.1 (λe=>h1.2 e.symm) b hb⟩
 have aaD:∀b,row=some b->w0.Du b/\H b=none:=λb h=>⟨(Gz b h).2,(low b (Gz b h).1).2.1⟩
 have hn:∀q∈del dd (B4 t Γ),∀b,q.2.owns w (AT a q.1) b->row≠some b:=λq hq b hb e=>(sub q hq).2 b (Gz b e).1 hb
 have Hj:Sat w0 H0 N (del dd<|B4 t Γ) a w' H:=by
  refine wD hs hg (λb h=>⟨(Gz b h).2,(aaD b h).2,λl e=>?_⟩)<|λq hq=>⟨(sub q hq).1,hn q hq⟩
  obtain⟨_,_,o,h3,h4⟩:=low b (Gz b h).1;rw[h3] at e;cases e;exact h4
 refine Ps Hj Cp Ox hl hv λb hb q hq KL=>?_
 have KL:=(ah2 hs hg aaD (sub q hq).1 (hn q hq) b).1 KL;rcases ho b hb with h|h
 ·exact(sub q hq).2 b h KL
 ·have:=(AJ.IP (hs.holds q (sub q hq).1) KL).1;omega
def lN(w:AK):E9 w w none:=⟨⟨rfl,rfl,rfl,Az _,λ_ _ _=>rfl⟩,Az _⟩
def GS(τ:Ty)(off:Nat)(σ GH:Ty):Prop:=∀(H:HV) (v x:AO),τ.ok H v->σ.ok H x->off+σ.n<=v.cells.size/\
 ∃x',GH.ok H x'/\x'.cells=(v.cells.toList.take off++x.cells.toList++v.cells.toList.drop (off+σ.n)).toArray
def GS.whole(h:σ.n=τ.n):GS τ 0 σ σ:=λH v x hv hx=>by
 have h1:=(τ.shape hv).size;refine⟨by omega,x,hx,?_⟩;rw[MZ (by simp;omega)];simp
def GS.agg{l:A3 Ty}{i off:Nat}{σ ρ:Ty}(h:l[i]? =some ρ)(hn:σ.n=ρ.n)(ho:Bx (l.take i)=off):GS (Co l) off σ (Co<|l.set i σ):=by
 rintro H v x ⟨cs,e,ok⟩ hx;subst e;subst ho;obtain⟨p1,_⟩:=My ok h;have hp:=TO ok h hn hx;rw[<-hn] at p1 hp;simp only[EB] at p1;exact⟨p1,.agg _,⟨_,rfl,by simpa[Value.cells] using hp⟩,rfl⟩
def kb{n:Nat}(h:Shape n false v):v.oneCell'=true/\n=1/\v.cells= #[v]:=by
 have h1:=h.size;have h2:=h.cell;have h3:=h.eq;cases v with
 |agg c=>
  exfalso;simp only[Value.cells,GL] at h2 h3;by_cases hc:0<c.size
  ·simp[hc] at h3;have:=h2 c[0] (by simp);rw[<-h3] at this;simp[Value.oneCell'] at this
  ·simp[Tb,Yp<|Nat.le_of_not_lt hc,undef] at h3
 |tuple c=>have:=h2 (.tuple c) (by simp[Value.cells]);simp[Value.oneCell'] at this
 |_=>exact⟨rfl,by simpa[Value.cells] using h1.symm,rfl⟩
def aea{n:Nat}{agg:Bool}{KH:A3 AO}(h:Shape n agg (GL agg KH.toArray))(hl:KH.length=n):(GL agg KH.toArray).cells=KH.toArray:=by
 cases agg
 ·obtain⟨_,h2,h3⟩:=kb h
  match KH,hl.trans h2 with
  |[y],_=>simpa[GL] using h3
 ·rfl
def GS.trans{i o1 o2:Nat}{ρ':Ty}(h:l[i]? =some ρ)(ho:Bx (l.take i)=o1)(k:GS ρ o2 σ ρ')(hn:ρ'.n=ρ.n)(e:o1+o2=off):GS (Co l) off σ (Co<|l.set i ρ'):=by
 rintro H v x ⟨cs,e',ok⟩ hx;subst e';subst ho;subst e;obtain⟨p1,p2⟩:=My ok h;have hlen:cs.toList.length=cs.size:=by simp
 rw[hlen] at p1
 generalize LY:(List.take ρ.n<|List.drop (Bx<|List.take i l) cs.toList)=KH at p2
 have iF:KH.length=ρ.n:=by rw[<-LY];simp;omega
 have amn:=aea (ρ.shape p2) iF;obtain⟨k1,x',k2,k3⟩:=k H _ x p2 hx;rw[amn] at k1 k3;simp only[VX,iF] at k1;refine⟨by simp only[Value.cells];omega,.agg _,⟨_,rfl,?_⟩,rfl⟩;have hp:=TO ok h hn k2;rw[k3] at hp;have e1:List.take (Bx<|List.take i l) cs.toList++(List.take o2 KH++x.cells.toList++List.drop (o2+σ.n) KH)++List.drop (Bx (List.take i l)+ρ.n) cs.toList=
   List.take (Bx (List.take i l)+o2) cs.toList++x.cells.toList++List.drop (Bx (List.take i l)+o2+σ.n) cs.toList:=by
  have t1:List.take (Bx (List.take i l)+o2) cs.toList=List.take (Bx<|List.take i l) cs.toList++List.take o2 KH:=by
   rw[List.take_add,<-LY,NA,Dt (by omega)]
  have t2:List.drop (Bx (List.take i l)+o2+σ.n) cs.toList=List.drop (o2+σ.n) KH++List.drop (Bx (List.take i l)+ρ.n) cs.toList:=by
   rw[<-LY,Lz,F4];have:List.drop (Bx (List.take i l)+ρ.n) cs.toList=List.drop (ρ.n-(o2+σ.n)) (List.drop (Bx (List.take i l)+(o2+σ.n)) cs.toList):=by
    rw[F4];congr 1;omega
   rw[this,OC]
   congr 1;omega
  rw[t1,t2];simp[Gw]
 rw[List.toList_toArray] at hp;rw[e1] at hp;exact hp
def Sd{n:Nat}{b:Nat}{cs:Aw AO}{E:Af}{x:AO}(hT:(P.info? T).map (·.size)=some n)(hn:x.cells.size=n)(hb:w.heap[b]? =some (.cells cs E (0,0)))(hl:off+n<=cs.size)(h1:∀c∈x.cells.toList,c.oneCell'=true):
  (storeVar T ⟨b,off,none⟩ x).run P w= .ok () (w.setRow b (cs.toList.take off++x.cells.toList++cs.toList.drop (off+n)).toArray):=by
 cases hi:P.info? T with
 |none=>rw[hi] at hT;cases hT
 |some i=>
  rw[hi] at hT;simp at hT;have EX:=run_storeCells_at P b off E x.cells.toList 0 cs w hb (by simp;omega) h1;simp only[Re,EB,hn] at EX;simp[storeVar,Go.sizeOf,typeInfo,program,Sem.run,hi,hT,hn,EX]
def TC{n:Nat}{agg:Bool}(h:BX P T n agg=true):(P.info? T).map (·.size)=some n:=by
 unfold BX at h;split at h
 ·rename_i i dd hi hu;simp only[BU] at h;rw[hi];simp[Dj h.1.1]
 ·cases h
def vA{AY:Ctx}(B0:∀q∈AY,q∈Γ)(hp:look AY p=some (.ptr t off))(ht:look AY t=some (.own T' τ))(hx:Arg AY x σ)(hs:GS τ off σ GH)(hT:BX P T σ.n σ.agg=true):
  Step P N ops ⟨none,.store T (.tmp p) x,ty,pos,af,none⟩ Γ ((t,.own T' GH)::B4 t Γ):=by
 intro w0 H0 a w H B1 K Q k;simp only[Region.wanted,if_true];obtain⟨b,v,e,hb,hv,hH,hB⟩:=B1.holds _ (B0 _<|Au ht);obtain⟨b',e1,e2⟩:=B1.holds _ (B0 _<|Au hp);simp only at e e1;rw[e] at e1;cases e1;have ep:a.eval (.tmp p)= .pointer (some ⟨b,off,none⟩):=e2;have HK:=hx.ok<|B1.weaken B0
 have By:=σ.shape HK;obtain⟨h1,x',h2,h3⟩:=hs H v _ hv HK;have Eh:=Sd (P:=P) (TC hT) By.size hb h1 By.cell;rw[<-h3] at Eh;unfold Oper.wp;have er:(execOp a.eval ⟨none,.store T (.tmp p) x,ty,pos,af,none⟩).run P w= .ok .skip (w.setRow b x'.cells):=by
  simp[execOp,ep,Instr.storeAt,Instr.sureAddr,Eh]
 rw[er,Q8];have hg:E9 w (w.setRow b x'.cells) (some b):=E9.setRow w b _;refine k a _ H<|Oa B1 (B0 _<|Au ht) hg hB ⟨_,e,rfl⟩ ⟨b,x',e,TP w b _ _ _ _ hb,h2,hH,hB⟩ λc hc=>?_
 obtain⟨ad,e',hc⟩:=hc;simp only[e] at e';cases e';exact .inl ⟨_,e,hc⟩
def w8(hp:look Γ p=some (.ptr t off))(ht:look Γ t=some (.own T' τ))(hx:Arg Γ x σ)(hs:GS τ off σ GH)(hT:BX P T σ.n σ.agg=true):
  Step P N ops ⟨none,.store T (.tmp p) x,ty,pos,af,none⟩ Γ ((t,.own T' GH)::B4 t Γ):=vA (λ_ h=>h) hp ht hx hs hT
def lY(hp:look Γ p=some (.ptr t off))(ht:look Γ t=some (.own T' τ))(hx:Arg Γ x σ)(hs:GS τ off σ GH)(hT:BX P T σ.n σ.agg=true):
  PY P N ops Γ ⟨none,.store T (.tmp p) x,ty,pos,af,none⟩ t (.own T' GH):=λ_ B0=>vA B0 hp ht hx hs hT
def se{AY:Ctx}(B0:∀q∈AY,q∈Γ)(ht:look AY t=some (.own T' τ))(hx:Arg AY x σ)(hn:σ.n=τ.n)(hT:BX P T σ.n σ.agg=true):
  Step P N ops ⟨none,.store T (.tmp t) x,ty,pos,af,none⟩ Γ ((t,.own T' σ)::B4 t Γ):=by
 intro w0 H0 a w H B1 K Q k;simp only[Region.wanted,if_true];obtain⟨b,v,e,hb,hv,hH,hB⟩:=B1.holds _ (B0 _<|Au ht);have ep:a.eval (.tmp t)= .pointer (some ⟨b,0,none⟩):=e;have HK:=hx.ok<|B1.weaken B0
 have By:=σ.shape HK;obtain⟨h1,x',h2,h3⟩:=GS.whole hn H v _ hv HK;have Eh:=Sd (P:=P) (TC hT) By.size hb h1 By.cell;rw[<-h3] at Eh;unfold Oper.wp;have er:(execOp a.eval ⟨none,.store T (.tmp t) x,ty,pos,af,none⟩).run P w= .ok .skip (w.setRow b x'.cells):=by
  simp[execOp,ep,Instr.storeAt,Instr.sureAddr,Eh]
 rw[er,Q8];have hg:E9 w (w.setRow b x'.cells) (some b):=E9.setRow w b _;refine k a _ H<|Oa B1 (B0 _<|Au ht) hg hB ⟨_,e,rfl⟩ ⟨b,x',e,TP w b _ _ _ _ hb,h2,hH,hB⟩ λc hc=>?_
 obtain⟨ad,e',hc⟩:=hc;simp only[e] at e';cases e';exact .inl ⟨_,e,hc⟩
def ady(ht:look Γ t=some (.own T' τ))(hx:Arg Γ x σ)(hn:σ.n=τ.n)(hT:BX P T σ.n σ.agg=true):
  Step P N ops ⟨none,.store T (.tmp t) x,ty,pos,af,none⟩ Γ ((t,.own T' σ)::B4 t Γ):=se (λ_ h=>h) ht hx hn hT
def ade(ht:look Γ t=some (.own T' τ))(hx:Arg Γ x σ)(hn:σ.n=τ.n)(hT:BX P T σ.n σ.agg=true):
  PY P N ops Γ ⟨none,.store T (.tmp t) x,ty,pos,af,none⟩ t (.own T' σ):=λ_ B0=>se B0 ht hx hn hT
def Hd{op:BinOp}(hx:Arg Γ x σ)(hy:Arg Γ y τ)
 (h:∀H u v,σ.ok H u->τ.ok H v->∀w:AK,(∀r o,H r=some o->w.heap[r]? =some o)->∃z,(do eqGuard op T x y u v;binOp op T u v:Sem AO).run P w= .ok z w/\ρ.ok H z):Aq P Γ ⟨d,.binOp op T x y T',ty,pos,af,g⟩ (.val ρ):=
 DL λ_ _ _ a w H hs=>by
  obtain⟨z,h1,h2⟩:=h H _ _ (hx.ok hs) (hy.ok hs) w hs.sub;refine⟨z,?_,h2,rfl⟩;have e:execOp a.eval ⟨d,.binOp op T x y T',ty,pos,af,g⟩=(do let z<-(do eqGuard op T x y (a.eval x) (a.eval y);binOp op T (a.eval x) (a.eval y):Sem AO);pure (.value z)):=rfl;rw[e,Df,h1]
  rfl
def MX(hx:Arg Γ x (TI k m))(hy:Arg Γ y (TI k n)):Aq P Γ ⟨d,.binOp .add T x y T',ty,pos,af,g⟩ (.val<|TI k<|k.wrap<|m+n):=
 Hd hx hy λH u v hu hv w _=>by
  cases hu;cases hv;exact⟨_,by simp[eqGuard,binOp,Op.intArith],rfl⟩
def PF(hx:Arg Γ x (TI k m))(hy:Arg Γ y (TI k n)):Aq P Γ ⟨d,.binOp .sub T x y T',ty,pos,af,g⟩ (.val<|TI k<|k.wrap<|m-n):=
 Hd hx hy λH u v hu hv w _=>by
  cases hu;cases hv;exact⟨_,by simp[eqGuard,binOp,Op.intArith],rfl⟩
def NI(hx:Arg Γ x (TI k m))(hy:Arg Γ y (TI k n)):Aq P Γ ⟨d,.binOp .mul T x y T',ty,pos,af,g⟩ (.val<|TI k<|k.wrap<|m*n):=
 Hd hx hy λH u v hu hv w _=>by
  cases hu;cases hv;exact⟨_,by simp[eqGuard,binOp,Op.intArith],rfl⟩
def zF(hx:Arg Γ x (TI k m))(hy:Arg Γ y (TI k n))(h:n≠0):Aq P Γ ⟨d,.binOp .quo T x y T',ty,pos,af,g⟩ (.val<|TI k<|k.wrap<|m.tdiv n):=
 Hd hx hy λH u v hu hv w _=>by
  cases hu;cases hv;exact⟨_,by simp[eqGuard,binOp,Op.intDiv,h],rfl⟩
def amJ(hx:Arg Γ x (TI k m))(hy:Arg Γ y (TI k n))(h:n≠0):Aq P Γ ⟨d,.binOp .rem T x y T',ty,pos,af,g⟩ (.val<|TI k<|m.tmod n):=
 Hd hx hy λH u v hu hv w _=>by
  cases hu;cases hv;exact⟨_,by simp[eqGuard,binOp,Op.intDiv,h],rfl⟩
def CV(hx:Arg Γ x (TI k m))(hy:Arg Γ y (TI k n)):Aq P Γ ⟨d,.binOp .lss T x y T',ty,pos,af,g⟩ (.val<|Ar<|decide<|m<n):=
 Hd hx hy λH u v hu hv w _=>by
  cases hu;cases hv;exact⟨_,by simp[eqGuard,binOp,Op.intCmp],rfl⟩
def QH(hx:Arg Γ x (TI k m))(hy:Arg Γ y (TI k n)):Aq P Γ ⟨d,.binOp .leq T x y T',ty,pos,af,g⟩ (.val<|Ar<|decide<|m<=n):=
 Hd hx hy λH u v hu hv w _=>by
  cases hu;cases hv;exact⟨_,by simp[eqGuard,binOp,Op.intCmp],rfl⟩
def C4(hx:Arg Γ x (TI k m))(hy:Arg Γ y (TI k n)):Aq P Γ ⟨d,.binOp .gtr T x y T',ty,pos,af,g⟩ (.val<|Ar<|decide<|n<m):=
 Hd hx hy λH u v hu hv w _=>by
  cases hu;cases hv;exact⟨_,by simp[eqGuard,binOp,Op.intCmp],rfl⟩
def Gu(hx:Arg Γ x (TI k m))(hy:Arg Γ y (TI k n)):Aq P Γ ⟨d,.binOp .geq T x y T',ty,pos,af,g⟩ (.val<|Ar<|decide<|n<=m):=
 Hd hx hy λH u v hu hv w _=>by
  cases hu;cases hv;exact⟨_,by simp[eqGuard,binOp,Op.intCmp],rfl⟩
def CW(hx:Arg Γ x (TI k m))(hy:Arg Γ y (TI k n)):Aq P Γ ⟨d,.binOp .eql T x y T',ty,pos,af,g⟩ (.val<|Ar<|decide<|m=n):=
 Hd hx hy λH u v hu hv w _=>by
  cases hu;cases hv;refine⟨.bool<|m==n,by simp[eqGuard,binOp,Op.intCmp],?_⟩;show _=_
  congr 1
def Cx(hx:Arg Γ x (TI k m))(hy:Arg Γ y (TI k n)):Aq P Γ ⟨d,.binOp .neq T x y T',ty,pos,af,g⟩ (.val<|Ar<| !decide (m=n)):=
 Hd hx hy λH u v hu hv w _=>by
  cases hu;cases hv;refine⟨.bool<|m !=n,by simp[eqGuard,binOp,Op.intCmp],?_⟩;show _=_
  congr 1
def amQ{m n:ByteArray}(hx:Arg Γ x (SZ m))(hy:Arg Γ y (SZ n)):Aq P Γ ⟨d,.binOp .eql T x y T',ty,pos,af,g⟩ (.val<|Ar<|m.toList==n.toList):=
 Hd hx hy λH u v hu hv w _=>by
  cases hu;cases hv;exact⟨_,by simp[eqGuard,binOp,Op.stringOp],rfl⟩
def amK{m n:ByteArray}(hx:Arg Γ x (SZ m))(hy:Arg Γ y (SZ n)):Aq P Γ ⟨d,.binOp .neq T x y T',ty,pos,af,g⟩ (.val<|Ar<| !(m.toList==n.toList)):=
 Hd hx hy λH u v hu hv w _=>by
  cases hu;cases hv;exact⟨_,by simp[eqGuard,binOp,Op.stringOp],rfl⟩
def WK(P:Bs)(T:Af):Bool:=match P.underlying T with|some .bool=>true|_=>false
def amR{m n:Bool}(hT:WK P T=true)(hx:Arg Γ x (Ar m))(hy:Arg Γ y (Ar n)):Aq P Γ ⟨d,.binOp .eql T x y T',ty,pos,af,g⟩ (.val<|Ar<|m==n):=
 Hd hx hy λH u v hu hv w _=>by
  cases hu;cases hv;have hu:P.underlying T=some .bool:=by
   unfold WK at hT;split at hT
   ·assumption
   ·cases hT
  refine⟨.bool<|m==n,?_,rfl⟩;have e:(Op.equal T (.bool m)<| .bool n).run P w= .ok (m==n) w:=run_equalIn_bool w 9999 T m n hu;simp[eqGuard,binOp,e]
def DH{b:Bool}(hx:Arg Γ x (Ar b)):Aq P Γ ⟨d,.unOp .not T x,ty,pos,af,g⟩ (.val<|Ar<| !b):=
 DL λ_ _ _ a w H hs=>by
  have e:a.eval x= .bool b:=hx.ok hs;exact⟨_,by simp[execOp,e,Op.unary],rfl,rfl⟩
def zG(hx:Arg Γ x (TI k n)):Aq P Γ ⟨d,.unOp .neg T x,ty,pos,af,g⟩ (.val<|TI k<|k.wrap<|0-n):=
 DL λ_ _ _ a w H hs=>by
  have e:a.eval x= .int k n:=hx.ok hs;exact⟨_,by simp[execOp,e,Op.unary,Op.intArith],rfl,rfl⟩
def DB(n:Int):Prop:= -9223372036854775808<=n/\n<=9223372036854775807
def wrap_i64(h:DB n):IntKind.i64.wrap n=n:=by
 exact IntWalk.i64_in n h
def U64(n:Int):Prop:=0<=n/\n<18446744073709551616
def wrap_u64(h:U64 n):IntKind.u64.wrap n=n:=by
 unfold U64 at h;exact IntWalk.u64_in n (by omega)
def aka(hx:Arg Γ x (TI .i64 m))(hy:Arg Γ y (TI .i64 n))(h:DB (m+n)):Aq P Γ ⟨d,.binOp .add T x y T',ty,pos,af,g⟩ (.val<|TI .i64<|m+n):=by
 have:=MX (P:=P) (d:=d) (ty:=ty) (pos:=pos) (af:=af) (g:=g) (T:=T) (T':=T') hx hy;rwa [wrap_i64 h] at this
def akT(hx:Arg Γ x (TI .i64 m))(hy:Arg Γ y (TI .i64 n))(h:DB (m-n)):Aq P Γ ⟨d,.binOp .sub T x y T',ty,pos,af,g⟩ (.val<|TI .i64<|m-n):=by
 have:=PF (P:=P) (d:=d) (ty:=ty) (pos:=pos) (af:=af) (g:=g) (T:=T) (T':=T') hx hy;rwa [wrap_i64 h] at this
def akW(hx:Arg Γ x (TI .i64 m))(hy:Arg Γ y (TI .i64 n))(h:DB (m*n)):Aq P Γ ⟨d,.binOp .mul T x y T',ty,pos,af,g⟩ (.val<|TI .i64<|m*n):=by
 have:=NI (P:=P) (d:=d) (ty:=ty) (pos:=pos) (af:=af) (g:=g) (T:=T) (T':=T') hx hy;rwa [wrap_i64 h] at this
def akU(hx:Arg Γ x (TI .i64 m))(hy:Arg Γ y (TI .i64 n))(hn:n≠0)(h:DB (m.tdiv n)):Aq P Γ ⟨d,.binOp .quo T x y T',ty,pos,af,g⟩ (.val<|TI .i64<|m.tdiv n):=by
 have:=zF (P:=P) (d:=d) (ty:=ty) (pos:=pos) (af:=af) (g:=g) (T:=T) (T':=T') hx hy hn;rwa [wrap_i64 h] at this
def akV(hx:Arg Γ x (TI .i64 n))(h:DB (-n)):Aq P Γ ⟨d,.unOp .neg T x,ty,pos,af,g⟩ (.val<|TI .i64<| -n):=by
 have:=zG (P:=P) (d:=d) (ty:=ty) (pos:=pos) (af:=af) (g:=g) (T:=T) hx;rwa [Int.zero_sub,wrap_i64 h] at this
def Db(P:Bs)(T:Af):Bool:=match P.underlying T with|some (.slice _)=>true|_=>false
def dI(h:Db P T=true):∃e,P.underlying T=some (.slice e):=by
 unfold Db at h;split at h
 ·rename_i e hu;exact⟨e,hu⟩
 ·cases h
def isStr(P:Bs)(T:Af):Bool:=match P.underlying T with|some .string=>true|_=>false
def lL(h:isStr P T=true):P.underlying T=some .string:=by
 unfold isStr at h;split at h
 ·assumption
 ·cases h
def lE{ty:Af}(h:Db P T=true)(ad:A6 Addr)(n c:Nat)(w:AK):(Builtin.len_ #[T] ty #[.slice ad n c]).run P w= .ok (.int .i64 n) w:=by
 obtain⟨e,hu⟩:=dI h;simp[Builtin.len_,EY hu,goInt]
def amO(hT:Db P T=true)(hx:Arg Γ x (FY l)):Aq P Γ ⟨d,.call ⟨.builtin .len,#[x],#[T]⟩,ty,pos,af,g⟩ (.val<|TI .i64 l.length):=
 DL λ_ _ _ a w H hs=>by
  obtain⟨ad,cap,e,_⟩:=hx.ok hs;exact⟨_,by simp[execOp,resolve,invoke,builtin,e,lE hT],rfl,rfl⟩
def afd{s:ByteArray}(hT:isStr P T=true)(hx:Arg Γ x (SZ s)):Aq P Γ ⟨d,.call ⟨.builtin .len,#[x],#[T]⟩,ty,pos,af,g⟩ (.val<|TI .i64 s.size):=
 DL λ_ _ _ a w H hs=>by
  have e:a.eval x= .string s:=hx.ok hs;exact⟨_,by simp[execOp,resolve,invoke,builtin,e,Builtin.len_,EY<|lL hT,goInt],rfl,rfl⟩
end
end Trn
