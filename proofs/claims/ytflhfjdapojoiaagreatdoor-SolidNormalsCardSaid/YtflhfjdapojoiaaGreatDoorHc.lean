/-
  Part of the proof of SolidNormals.
-/
import Derived.Test.YtflhfjdapojoiaaGreatDoorHb
set_option maxRecDepth 100000
set_option maxHeartbeats 20000000
set_option linter.all false
open Go Go.RowKit Go.Proofs Go.Proofs.Tryz
namespace Trn
section
variable{α:Type}[DecidableEq α]{c:α×α->Option Int}
def Iq{rk:α->Nat}:∀{l s:att α},(∀x∈s++l,∀y∈s++l,∃v,c (x,y)=some v/\(v<0↔rk x<rk y))->s.Pairwise (fun a b=>rk b<=rk a)->
  ∃s',Oh l (fun next x s=>bd (KM (fun a b=>c (a,b)) x s) next) s (fun s=>some s.reverse)=some s'/\s'.Pairwise (fun a b=>rk a<=rk b)
 |[],s,_,hs=>⟨s.reverse,rfl,List.pairwise_reverse.2 hs⟩
 |x::l,s,h,hs=>by
  obtain⟨s1,h1,h2⟩:=Ns (c:=c) (rk:=rk) (s:=s) (x:=x) (fun y hy=>h x (by simp) y (by simp[hy])) hs;have hp:=E9 h1;obtain⟨s',h3,h4⟩:=Iq (l:=l) (s:=s1) (fun a ha b hb=>by
   have mem:∀z,z∈s1++l->z∈s++x::l:=fun z hz=>by
    rcases bN.1 hz with hz|hz
    ·rcases aY.1 (hp.mem_iff.1 hz) with e|hz
     ·simp[e]
     ·simp[hz]
    ·simp[hz]
   exact h a (mem a ha) b<|mem b hb) h2
  refine⟨s',?_,h4⟩;show bd (KM (fun a b=>c (a,b)) x s) _=_;rw[h1];exact h3
def S2{l l' r:att α}(h:nC l c=some r)(hp:l'.Perm l):nC l' c=some r:=by
 obtain⟨h1,h2,h3,h4⟩:=xg h;have mem:∀x∈l',x∈r:=fun x hx=>h1.mem_iff.2<|hp.mem_iff.1 hx
 have key:∀x∈l',∀y∈l',∃v,c (x,y)=some v/\(v<0↔r.idxOf x<r.idxOf y):=fun x hx y hy=>by
  obtain⟨v,hv⟩:=h3 x (hp.mem_iff.1 hx) y<|hp.mem_iff.1 hy
  exact⟨v,hv,Hl h2 (mem x hx) (mem y hy) hv⟩
 obtain⟨s',k1,k2⟩:=Iq (c:=c) (rk:=fun x=>r.idxOf x) (l:=l') (s:=[]) (by simpa using key) List.Pairwise.nil;have k1:RI (fun a b=>c (a,b)) l'=some s':=k1;have e:s'=r:=Pr h2 ((Kc k1).trans<|hp.trans h1.symm) k2;subst e;unfold nC;rw[k1];show Bl _ s'=_;have g1:Nat.blt l'.length 4611686018427387904=true:=by rw[hp.length_eq];exact lz h4
 have g2:totB c l'=true:=dI.2 fun x hx=>dI.2 fun y hy=>by
  obtain⟨v,hv,_⟩:=key x hx y hy;rw[hv];rfl
 rw[g1,g2,h2];rfl
end
def DM{x4:_}{r:_}(hm:TK (fun(x7:((Int×Int×Int)×ad3)×V3) (s6:(att<|((Int×Int×Int)×ad3)×av5))=>
   bd (ot x7.2) fun x9=>
   cond (x9) (
    some s6
   ) (
    bd (pM x7.2) fun iY=>
    cond (!decide (iY.2=(0:Int))) (
     none
    ) (
     bd (fX 88 s6 ([((x7.1.1,x7.1.2),iY.1)]:att (((Int×Int×Int)×ad3)×av5))) fun jH=>
     some jH
    )
   )
  ) x4 [] (fun(s6:(att<|((Int×Int×Int)×ad3)×av5))=>
   bd (nC s6<|fun x=>o6 x.1 x.2) fun jN=>
   some (jN,(0:Int)))=some r):∀π,π.Perm x4->TK (fun(x7:((Int×Int×Int)×ad3)×V3) (s6:(att<|((Int×Int×Int)×ad3)×av5))=>
   bd (ot x7.2) fun x9=>
   cond (x9) (
    some s6
   ) (
    bd (pM x7.2) fun iY=>
    cond (!decide (iY.2=(0:Int))) (
     none
    ) (
     bd (fX 88 s6 ([((x7.1.1,x7.1.2),iY.1)]:att (((Int×Int×Int)×ad3)×av5))) fun jH=>
     some jH
    )
   )
  ) π [] (fun(s6:(att<|((Int×Int×Int)×ad3)×av5))=>
   bd (nC s6<|fun x=>o6 x.1 x.2) fun jN=>
   some (jN,(0:Int)))=some r:=by
 intro π hπ;obtain⟨s,hs,hr⟩:=xN hm;obtain⟨s',ui,hp⟩:=adY (b:=88) (by
  intro x
  repeat' (first|exact Acc.some|exact Acc.none|refine Acc.app rfl ?_|refine Acc.ang (fun _=>rfl) ?_ ?_|(refine Acc.bdc<|fun x=>?_)|fail)) hs hπ
 unfold TK;rw[ui];obtain⟨y,hy,hr⟩:=xN hr;show bd (nC s' _) _=_;rw[S2 hy hp];exact hr
end Trn
namespace ad2
section
open Go.Shelf Go.Lib
def Oj(m n:Nat)(h:n<=m):(⟨(List.replicate m (48:UInt8)).toArray⟩:ByteArray).extract 0 n=⟨(List.replicate n 48).toArray⟩:=by
 apply ByteArray.ext;rw[ByteArray.data_extract];apply Array.ext';simp[List.take_replicate,Nat.min_eq_left h]
set_option maxHeartbeats 4000000 in
set_option maxRecDepth 1000000 in
def aoo(n:Nat)(h2:2<=n)(h:n<=64)(w:World):
  Calls prog 242 #[.string ⟨#[48]⟩,.int .i64 n] w fun e w'=>e= .returned (.string ⟨(List.replicate n 48).toArray⟩)/\∃k,w'=w.drewN k:=by
 have e317:∀args w,(callFunc 287 args).run prog w= .ok (.enter 287 args) w:=enters_of func287 Trn.aH rfl;have e232:∀args w,(callFunc 206 args).run prog w= .ok (.enter 206 args) w:=enters_of func206 Trn.aH rfl;have hmul:=fun w=>bits_Mul 1 n (by omega) (by omega) w
 have hp:=fun s w=>strings_HasPrefix s ⟨#[48]⟩ w
 go_enter func242,ntmps242
 go_wp2_with (first|(go_at_fn (287);refine(hmul _).mono ?_;rintro e w' ⟨rfl,rfl⟩)|(go_at_fn (206);refine(hp _ _).mono ?_;rintro e w' ⟨rfl,rfl⟩))
 go_ret
 refine⟨?_,0,by simp[World.drewN_zero]⟩;have hm:n%18446744073709551616=n:=Nat.mod_eq_of_lt (by omega);show Ending.returned (Value.string<|ByteArray.extract _ 0<|n%18446744073709551616)=_;rw[hm]
 congr 2
 exact Oj 64 n h
end
end ad2
namespace Trn
section
open Go.Shelf
variable[D:DR]
variable{cur:awa arH}
theorem Wh{k n:Nat}{ps qs xs:att arH}{w:arG}{blk:Nat}{E:ato}[Inhabited<|Fin n](hl:xs.length=n*k)(hb:w.heap[blk]? =some (.cells cur E (0,0)))(ht:cur.toList=ps++(xs++qs)):
  Go.Sort.HoldsK (fun i:Fin n=>chunk k xs i) k w blk ps.length (Array.ofFn fun i:Fin n=>i):=by
 unfold Go.Sort.HoldsK Go.Sort.Holds;intro j hj;rw[Go.Sort.size_flatK,EW] at hj;have Gm:cur[ps.length+j]? =xs[j]? :=by
  rw[<-wj,ht,A9 (by omega),Nat.add_sub_cancel_left,xK (by omega)]
 have hk:0<k:=(r9 k).elim (fun e=>by subst e;simp at hj) id;have hi:j/k<n:=Nat.div_lt_of_lt_mul (by rw[qJ];exact hj);refine⟨?_,by simp[World.frozen?,hb]⟩;rw[Go.Sort.get_flatK _ _ _ _ (by simpa using hj)];rw[H7 hb,Gm];have e1:(Array.ofFn fun i:Fin n=>i)[j/k]! =⟨j/k,hi⟩:=by rw[pS (Array.ofFn fun i:Fin n=>i) (j/k) (by simpa using hi)];simp
 rw[e1];have hg:=Qh hl hj;have hlt:j%k<(chunk k xs<|j/k).length:=by rw[tZ hl hi];exact te _ hk
 show xs[j]? =some (id (chunk k xs<|j/k)[j%k]!);rw[<-hg,pS (chunk k xs<|j/k) (j%k) hlt,j7 hlt];rfl
theorem Ft{α:Type}[Inhabited α]{enc:α->att arH}{k:Nat}{w:arG}{blk off m:Nat}{dk:awa α}{os:awa Obj}{E:ato}{fr:Nat×Nat}(hb:w.heap[blk]? =some (.cells cur E fr)):
  (sortWorldK enc k w blk off m dk os).heap[blk]? =some (.cells (Go.Sort.putCells id off (Go.Sort.flatK enc k dk) cur) E fr):=by
 unfold sortWorldK Go.Sort.grow Go.Sort.putRowK Go.Sort.putRow Go.Sort.mapBlock Go.Sort.ahead;simp only[LK,Array.size_modify,lt_of_heap hb,if_pos,Cz,hb,Aq]
 rfl
theorem Q0{ps xs qs:att arH}{d:awa arH}(h:cur.toList=ps++(xs++qs))(hd:d.size=xs.length):(Go.Sort.putCells id ps.length d cur).toList=ps++(d.toList++qs):=by
 have hs:cur.size=ps.length+(xs.length+qs.length):=by rw[<-gF,h];simp
 apply EZ;intro i;rw[wj];unfold Go.Sort.putCells;rw[Array.getElem?_mapIdx,<-wj,h];rcases kQ i ps.length with h1|h1
 ·rw[xK h1,xK h1];cases ps[i]? with
  |none=>rfl
  |some v=>simp;omega
 ·rw[A9 h1,A9 h1];rcases kQ (i-ps.length) xs.length with h2|h2
  ·rw[xK h2,xK (by simpa[hd] using h2),j7 h2,Aq,if_pos ⟨h1,by omega⟩,wj,E5 (by omega),pS d _ (by omega)];rfl
  ·have e3:d.toList.length=xs.length:=by rw[<-hd];exact gF
   rw[A9 h2,A9 (by rw[e3];exact h2),e3];cases qs[i-ps.length-xs.length]? with
   |none=>rfl
   |some v=>simp;omega
end
section
open Go.Shelf
variable[D:DR]
variable{P:Program}{ρ:Ren}{A:Type}[DecidableEq A]{τ:A->Ty}{k:Nat}{c:A×A->Option Int}
set_option maxHeartbeats 1000000 in
theorem VA(L:SlLaysF0.n6 P ρ)(aE:∀w,(isAgg<|ρ.t 24).run P w= .ok true w)(zE:∀w,(Go.sizeOf<|ρ.t 24).run P w= .ok k w)(hc:fR P (ρ.f 6)=true)
  (hn:∀a,(τ a).n=k)(ha:∀a,(τ a).agg=true)(none:∀(p:av8 Addr) (cap:Nat) (fv:arH) (w:arG),Calls P (ρ.f 6) #[.slice p 0 cap,fv] w fun e w'=>e= .returned (.tuple #[])/\w'=w)
  {l r:att A}(hm:nC l c=some r){ps qs:att arH}:
  kN P (ρ.f 6) [] (.pR (ρ.t 24) ps qs<|lT τ l) (.pR (ρ.t 24) ps qs<|lT τ r) [U8 P (fun x:A×A=>[τ x.1,τ x.2]) (fun x:Int=>[(TI .i64) x]) c] []:=by
 obtain⟨h1,h2,h3,h4⟩:=xg hm;have hrl:r.length=l.length:=h1.length_eq;refine⟨hc,fun w H v pv qv sub gl hp hq hs=>?_⟩;have hp:=HB hp;subst hp;obtain⟨fv,rfl,hfv⟩:=uK hq;obtain⟨g,cap,qn,rfl,Iu,hf⟩:=hfv;obtain⟨blk,pq,cur,xs,rfl,hblk,Gm,ij,hB,Yc⟩:=hs;have hlen:(lT τ l).length=l.length:=c7 ..;have Ny:(lT τ r).length=l.length:=by rw[c7,hrl]
 rw[hlen];have Fs:∀b,Value.ownBlock (.slice (some ⟨blk,ps.length,.none⟩) l.length pq)=some b->H b= .none:=fun b hb=>by cases hb;exact hB
 by_cases hl0:l=[]
 ·subst hl0;have hr:r=[]:=List.Perm.eq_nil h1;subst hr;refine(none _ pq _ w).mono ?_;rintro e w' ⟨rfl,rfl⟩;exact⟨_,rfl,H,(Tr.refl _ _).Fs sub Fs,⟨blk,pq,cur,xs,rfl,hblk,Gm,ij,hB,Yc⟩,fun b hb=> .inl hb,#[],rfl,rfl⟩
 ·have hpos:0<l.length:=E3.2 hl0
  haveI:Inhabited (Fin l.length):=⟨⟨0,hpos⟩⟩
  obtain⟨Ir,Sm⟩:=tD hn ha ij
  let cf:Fin l.length->Fin l.length->Int:=fun i j=>(c (l[i],l[j])).getD 0
  have tot:∀i j:Fin l.length,c (l[i],l[j])=some (cf i j):=fun i j=>by
   obtain⟨v,hv⟩:=h3 _ (rY i.2) _<|rY j.2
   have hv:c (l[i],l[j])=some v:=hv;show c (l[i],l[j])=some ((c (l[i],l[j])).getD 0);rw[hv];rfl
  have Wo:=fN.can (D:=DR.strict)<|hf _ _<|tot ⟨0,hpos⟩ ⟨0,hpos⟩
  have hcmp:=NV (P:=P) (off:=ps.length) hn ha ij sub gl hB Iu hf cf tot;have hd:(Array.ofFn fun i:Fin l.length=>i).size=l.length:=EW;have main:=AnyQ.slices_SortFunc L k aE zE (fun i:Fin l.length=>chunk k xs i) (fun i=>tZ Ir i.2)
   (fun i u hu=>xn ij u<|yx<|zx hu) cf (S1 hm tot) g cap blk ps.length pq (Array.ofFn fun i:Fin l.length=>i) w
   (fun args w=>ke Wo args w) (by rw[hd];exact hcmp) (Wh Ir hblk Gm) (lt_of_heap hblk) (by rw[hd];exact h4)
  rw[hd] at main;refine main.mono ?_;rintro e w' ⟨rfl,d',m,os,P1,acw,rfl⟩;obtain⟨hdz,Yi⟩:=Ps hm tot P1 acw;have Sl:(Go.Sort.flatK (fun i:Fin l.length=>chunk k xs i) k d').size=l.length*k:=by rw[Go.Sort.size_flatK,hdz]
  refine⟨_,rfl,H,Tr.Fs (M:=fun b=>Value.ownBlock (.slice (some ⟨blk,ps.length,.none⟩) l.length pq)=some b) ⟨xC,rfl,rfl,rfl,?_,fun i hi hne=>pE hi (fun e=>hne (by rw[e];rfl))⟩ sub Fs,
   ⟨blk,pq,_,(Go.Sort.flatK (fun i:Fin l.length=>chunk k xs i) k d').toList,by rw[Ny],Ft hblk,Q0 Gm (by rw[Sl,Ir]),?_,hB,Yc⟩,fun b hb=> .inl hb,#[],rfl,rfl⟩
  ·refine JQ.of ?_;show w.drawn<=(sortWorldK _ k w blk _ m d' os).drawn;unfold sortWorldK Go.Sort.grow Go.Sort.putRowK Go.Sort.putRow Go.Sort.mapBlock Go.Sort.ahead;exact Cv _ _
  ·refine wK (by rw[gF,Sl,hrl]) fun i hi=>?_
   have hi2:i<d'.size:=by omega
   rw[Gu (fun i=>tZ Ir i.2) hi2];rw[pS d' i hi2];have e:r[i]=l[d'[i]]:=by
    have:r[i]? =(d'.toList.map fun i=>l[i])[i]? :=by rw[Yi]
    rw[j7 hi,kD,wj,E5 hi2] at this;simpa using this
   rw[e];exact Sm _ d'[i].2
end
section
variable[D:DR]
variable{l r:att V3}
theorem abn{l r:att (((Int×Int×Int)×ad3)×av5)}{c:(((Int×Int×Int)×ad3)×av5)×(((Int×Int×Int)×ad3)×av5)->av8 Int}(hm:nC l c=some r):kN prog 66 [] (.buf 72 7<|lT fA l) (.buf 72 7<|lT fA r) [(U8 prog (fun(x:(((Int×Int×Int)×ad3)×av5)×(((Int×Int×Int)×ad3)×av5))=>[fA x.1,fA x.2])<|fun(x:Int)=>[(TI .i64) x]) c] []:=
 Jb (ρ:=ME) abf (k:=7) isAgg72 sizeOf72 aH (fun _=>rfl) (fun _=>rfl) (AnyF.slices_SortFunc_none abf) hm
theorem Zo{l r:att ((Int×Int×Int)×ad3)}{c:((Int×Int×Int)×ad3)×((Int×Int×Int)×ad3)->av8 Int}(hm:nC l c=some r):kN prog 163 [] (.buf 49 4<|lT aq l) (.buf 49 4<|lT aq r) [(U8 prog (fun(x:((Int×Int×Int)×ad3)×((Int×Int×Int)×ad3))=>[aq x.1,aq x.2])<|fun(x:Int)=>[(TI .i64) x]) c] []:=
 Jb (ρ:=JY) Xr (k:=4) isAgg49 sizeOf49 aH (fun _=>rfl) (fun _=>rfl) (AnyF.slices_SortFunc_none Xr) hm
theorem Zn{c:V3×V3->av8 Int}(hm:nC l c=some r):kN prog 188 [] (.buf 97 12<|lT ay l) (.buf 97 12<|lT ay r) [(U8 prog (fun(x:V3×V3)=>[ay x.1,ay x.2])<|fun(x:Int)=>[(TI .i64) x]) c] []:=
 Jb (ρ:=DC) KY (k:=12) isAgg97 sizeOf97 aH (fun _=>rfl) (fun _=>rfl) (AnyF.slices_SortFunc_none KY) hm
theorem VH{c:V3×V3->av8 Int}(hm:nC l c=some r){ps qs:att arH}:kN prog 188 [] (.pR 97 ps qs<|lT ay l) (.pR 97 ps qs<|lT ay r) [(U8 prog (fun(x:V3×V3)=>[ay x.1,ay x.2])<|fun(x:Int)=>[(TI .i64) x]) c] []:=
 VA (ρ:=DC) KY (k:=12) isAgg97 sizeOf97 aH (fun _=>rfl) (fun _=>rfl) (AnyF.slices_SortFunc_none KY) hm
theorem OM{c:V3×V3->av8 Bool}(hm:BP l c=some r):Fk prog 221 97 12 (lT ay l) [(U8 prog (fun(x:V3×V3)=>[ay x.1,ay x.2])<|fun(x:Bool)=>[bj x]) c] (lT ay r):=
 R4 (k:=12) aH (fun _=>rfl) (fun _=>rfl) ad2.WN
  (ad2.WM func221 mixed rfl underlying3 isAgg3 sizeOf3 zeroValue3 underlying4 isAgg4 sizeOf4 underlying114 isAgg114 sizeOf114 isAgg97 sizeOf97 _ zeroValue97 (by rfl) (by decide)) hm
theorem aiy{x r:att (att<|(V3×Rat)×att V3)}{n:Int}(hm:V6 x n=some r):fN prog 144 [(TN<|TL az) x,(TI .i64) n] (.fr 75 1<|lT (TL az) r):=
 aal (ρ:=Kg) agF (i0:=(prog.info? 75).get aH) (z:= .slice none 0 0) (sz:=1) aH aH aH (by decide) rfl (gK aH) aH hm
def ahg{w:arG}{H:HV}(sub:∀r o,H r=some o->w.heap[r]? =some o)(gl:qU prog H):Lib.TabIs prog w "internal/strconv.uint64pow10" .u64 Lib.pow10Tab:=by
 obtain⟨g,hg,T,hT,e,hu⟩:∃g,prog.globalNamed "internal/strconv.uint64pow10" =some g/\∃T,(prog.globals[g]?).map (·.type)=some T/\∃e,prog.underlying T=some (.array 20 e):=by
  refine⟨((prog.globalNamed "internal/strconv.uint64pow10").getD 0),aH,((prog.globals[((prog.globalNamed "internal/strconv.uint64pow10").getD 0)]?).map (·.type)).getD 0,aH,255,aH⟩
 have:=gl g T hT;unfold Ew at this;rw[hu] at this;obtain⟨E,fr,e'⟩:=this;unfold Lib.TabIs World.var?;rw[hg];show(match w.heap[g]? with|some (.cells cs _ _)=>some cs|_=>none)=_;rw[sub _ _ e'];show some Cb=_
 congr 1
def aix{x:Int}{r:ad3}(hm:Nh x=some r):c8 239 [TI .i64 x] [TS r]:=by
 unfold Nh at hm;cases hb:yA x
 ·rw[hb] at hm;cases hm
 ·rw[hb] at hm;have hm:some (eh x)=some r:=hm;cases hm;unfold yA at hb;obtain⟨h1,h2⟩:=eT hb;have h1:=aZ h1;have h2:=aZ h2;refine tW aH fun w H vs sub gl ha=>?_
  obtain⟨u,rfl,hu⟩:=uK ha;have hu:u= .int .i64 x:=hu;subst hu;refine(strconv_Itoa x h1 h2 w<|ahg sub gl).mono ?_;rintro e w' ⟨rfl,k,os,rfl⟩;refine⟨_,rfl,⟨ad2.N6,JQ.of<|Cv _ _⟩,?_⟩;show Value.string _=Value.string _
  congr 3
  unfold eh Lib.itoa;by_cases h:x<0
  ·rw[if_pos h,aW h,Ff];rfl
  ·rw[if_neg h,bC h,Ff,show x.natAbs=x.toNat from by omega];rfl
def aiz{x y:Int}{r:ad3}(hm:Rv x y=some r):c8 241 [TI .u64 x,TI .i64 y] [TS r]:=by
 obtain⟨hb,rfl⟩:=jh hm;obtain⟨hb,h3⟩:=eT hb;obtain⟨h1,h2⟩:=eT hb;have h1:=aZ h1;have h2:=aZ h2;have h3:=aZ h3;subst h3;obtain⟨n,rfl⟩:=gL h1;refine tW aH fun w H vs sub gl ha=>?_
 obtain⟨u,v,rfl,hu,hv⟩:=Cd ha;have hu:u= .int .u64 n:=hu;have hv:v= .int .i64 10:=hv;subst hu;subst hv;refine(ad2.RV n (by omega) w<|ahg sub gl).mono ?_;rintro e w' ⟨rfl,k,os,rfl⟩;refine⟨_,rfl,⟨ad2.N6,JQ.of<|Cv _ _⟩,?_⟩;show Value.string _=Value.string _;rw[Int.toNat_natCast,Ff]
def aiw{x:ad3}{y:Int}{r:ad3}(hm:Ru x y=some r):c8 242 [TS x,TI .i64 y] [TS r]:=by
 obtain⟨hb,rfl⟩:=jh hm;obtain⟨hb,h3⟩:=eT hb;obtain⟨h1,h2⟩:=eT hb;have h1:=aZ h1;have h2:=aZ h2;have h3:=aZ h3;subst h3;obtain⟨n,rfl⟩:=gL h1;refine tW aH fun w H vs sub gl ha=>?_
 obtain⟨u,v,rfl,hu,hv⟩:=Cd ha;have hu:u= .string ⟨#[48]⟩:=hu;have hv:v= .int .i64 n:=hv;subst hu;subst hv;rw[Int.toNat_natCast];rcases(show n=0\/n=1\/2<=n by omega) with h|h|h
 ·subst h;refine(strings_Repeat_zero ⟨#[48]⟩ w).mono ?_;rintro e w' ⟨rfl,rfl⟩;exact⟨_,rfl,Ex.refl _ _,rfl⟩
 ·subst h;refine(strings_Repeat_one ⟨#[48]⟩ w).mono ?_;rintro e w' ⟨rfl,rfl⟩;exact⟨_,rfl,Ex.refl _ _,rfl⟩
 ·refine(ad2.aoo n h (by omega) w).mono ?_;rintro e w' ⟨rfl,k,rfl⟩;refine⟨_,rfl,⟨⟨rfl,rfl,rfl,bp _,fun _ _=>rfl⟩,JQ.of<|Cv _ _⟩,?_⟩;show Value.string _=Value.string _;rw[Xw]
end
end Trn
