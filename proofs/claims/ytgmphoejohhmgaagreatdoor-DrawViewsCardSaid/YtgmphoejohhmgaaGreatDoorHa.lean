/-
  Part of the proof of DrawViews.
-/
import Derived.Test.YtgmphoejohhmgaaGreatDoorFa
import Derived.Test.YtgmphoejohhmgaaGreatDoorMa
import Derived.Test.YtgmphoejohhmgaaGreatDoorSa
import Derived.Shelf.SlSortCmp.NoneTotal
set_option maxRecDepth 100000
set_option maxHeartbeats 20000000
set_option linter.all false
open Go Go.RowKit Go.Proofs Go.Proofs.Tryz
namespace Trn
section
open Go.Shelf
variable[D:DR]
variable{k:Nat}{xs:ard apU}
def chunk(k:Nat)(xs:ard apU)(i:Nat):ard apU:=(xs.drop<|i*k).take k
theorem qd{n:Nat}(h:xs.length=n*k){i:Nat}(hi:i<n):(chunk k xs i).length=k:=by
 have:(i+1)*k<=n*k:=mI k hi;rw[om,vw] at this;simp[chunk];omega
theorem Qt{n:Nat}(h:xs.length=n*k){t:Nat}(ht:t<n*k):(chunk k xs<|t/k)[t%k]? =xs[t]? :=by
 have hk:0<k:=(wH k).elim (fun e=>by subst e;simp at ht) id;have hm:=tF t hk;unfold chunk;rw[Ao,if_pos hm,yF]
 congr 1
 rw[oI];exact Nat.div_add_mod t k
theorem Ws{ys:ard apU}(h:ys.length=k):chunk k (ys++xs) 0=ys:=by
 simp[chunk,<-h]
theorem Wt{ys:ard apU}(h:ys.length=k)(i:Nat):chunk k (ys++xs) (i+1)=chunk k xs i:=by
 unfold chunk;rw[om,vw,BU,<-h,yE];have e:List.drop (ys.length+i*ys.length) ys=[]:=List.drop_eq_nil_of_le (by omega);rw[e,zz]
 congr 2;omega
end
section
open Go.Shelf
variable[D:DR]
variable{P:Program}{A:Type}{τ:A->Ty}{k:Nat}{H:HV}
theorem pc(hn:∀a,(τ a).n=k)(ha:∀a,(τ a).agg=true):∀{l:ard A} {xs:ard apU},uD H (lT τ l) xs->xs.length=l.length*k/\∀i (hi:i<l.length),(τ l[i]).ok H (.agg (chunk k xs i).toArray)
 |[],xs,h=>by
  have h:xs=[]:=h;subst h;exact⟨by simp,fun i hi=>absurd hi<|Nat.not_lt_zero _⟩
 |a::l,xs,h=>by
  obtain⟨v,rest,e,hv,hr⟩:=h;have sh:=(τ a).shape hv;obtain⟨hl,hc⟩:=pc hn ha hr;have hs:v.cells.toList.length=k:=by rw[gi,sh.size,hn]
  subst e;refine⟨by simp only[List.length_append,hs,hl,List.length_cons];rw[om];omega,fun i hi=>?_⟩;cases i with
  |zero=>
   rw[Ws hs];have e:=sh.eq;rw[ha] at e;have e:v= .agg v.cells:=e;simpa[<-e] using hv
  |succ i=>
   rw[Wt hs];exact hc i (by simpa using hi)
theorem vi:∀{l:ard A} {xs:ard apU},xs.length=l.length*k->(∀i (hi:i<l.length),(τ l[i]).ok H<| .agg (chunk k xs i).toArray)->uD H (lT τ l) xs
 |[],xs,h,_=>rT (by simpa using h)
 |a::l,xs,h,hc=>by
  have hlen:xs.length=k+l.length*k:=by simpa[om,BU] using h
  have h0:=hc 0 (by simp);have e0:chunk k xs 0=xs.take k:=by simp[chunk]
  rw[e0] at h0;refine⟨_,xs.drop k,?_,h0,vi (by simp[hlen]) fun i hi=>?_⟩
  ·simp[Value.cells]
  ·have:=hc (i+1) (by simpa using hi);have e:chunk k xs (i+1)=chunk k (xs.drop k) i:=by
    unfold chunk;rw[iF,om,vw,BU]
   rwa [e] at this
end
section
open Go.Shelf
variable[D:DR]
variable{w:apT}
theorem XW{w':apT}(h: @E0 DR.strict w.heap.size w w'):∃q os,w'=Go.Sort.grow (w.drewN q) os:=by
 refine⟨w'.drawn-w.drawn,w'.heap.extract w.heap.size w'.heap.size,?_⟩;have hd:w.drawn+(w'.drawn-w.drawn)=w'.drawn:=by have h:w.drawn<=w'.drawn:=E0.drawn (D:=DR.strict) h;omega
 have hh:w.heap++w'.heap.extract w.heap.size w'.heap.size=w'.heap:=by
  apply Array.ext_getElem?;intro i;rw[L2];have hs:=(E0.toBelow (D:=DR.strict) h).size;split
  ·rename_i hi;exact((E0.toBelow (D:=DR.strict) h).block i hi).symm
  ·rename_i hi;rw[Array.getElem?_extract];by_cases h2:i-w.heap.size<min w'.heap.size w'.heap.size-w.heap.size
   ·rw[if_pos h2];congr 1;omega
   ·rw[if_neg h2]
    symm;apply Array.getElem?_eq_none
    omega
 obtain⟨heap,tape,drawn,os,output⟩:=w';obtain⟨aqI,ap8,apP,os0,amD⟩:=w;simp only[World.drewN,Go.Sort.grow];simp only[World.mk.injEq];have hb:=E0.toBelow (D:=DR.strict) h;exact⟨hh.symm,hb.tape,hd.symm,hb.os,hb.output⟩
theorem nQ{α:Type}[Inhabited α]{enc:α->ard apU}{k:Nat}{blk off m:Nat}{dk:ath α}{os:ath Obj}{r:Nat}(hr:r<w.heap.size)(hne:r≠blk):(sortWorldK enc k w blk off m dk os).heap[r]? =w.heap[r]? :=by
 unfold sortWorldK Go.Sort.grow Go.Sort.putRowK Go.Sort.putRow Go.Sort.mapBlock Go.Sort.ahead;simp only[L2,Array.size_modify,hr,if_pos,B8];rw[if_neg<|fun e=>hne e.symm]
theorem wo{α:Type}[Inhabited α]{enc:α->ard apU}{k:Nat}{blk off m:Nat}{dk:ath α}{os:ath Obj}:w.heap.size<=(sortWorldK enc k w blk off m dk os).heap.size:=by
 unfold sortWorldK Go.Sort.grow Go.Sort.putRowK Go.Sort.putRow Go.Sort.mapBlock Go.Sort.ahead;simp
end
section
open Go.Shelf
variable[D:DR]
variable{P:Program}{A:Type}{τ:A->Ty}{k:Nat}{H:HV}{c:A×A->Option Int}
theorem Ot(hn:∀a,(τ a).n=k)(ha:∀a,(τ a).agg=true){l:ard A}{xs:ard apU}{w:apT}{blk off g:Nat}{cap:ath apU}{oT:ard Ty}(hxs:uD H (lT τ l) xs)
  (sub:∀r o,H r=some o->w.heap[r]? =some o)(gl:pI P H)(hB:H blk=none)(IK:BF H oT cap.toList)
  (hf:∀a r,c a=some r-> @al DR.strict P g ([τ a.1,τ a.2]++oT) (.vs [TI .i64 r]))(cf:Fin l.length->Fin l.length->Int)(tot:∀i j,c (l[i],l[j])=some (cf i j))[Inhabited<|Fin l.length]:
  CmpLays P g cap (fun i:Fin l.length=>chunk k xs i) k cf blk off l.length w:=by
 intro m os dk hdk x y;obtain⟨_,hc⟩:=pc hn ha hxs;have hs:∀r o,H r=some o->(sortWorldK (fun i:Fin l.length=>chunk k xs i) k w blk off m dk os).heap[r]? =some o:=fun r o h=>by
  have h1:=sub r o h;rw[nQ (lt_of_heap h1) (fun e=>by rw[e,hB] at h;cases h)];exact h1
 have hr:=al.run (D:=DR.strict) (hf (l[x],l[y]) _<|tot x y) _ H ([Value.agg (chunk k xs x).toArray,Value.agg (chunk k xs y).toArray]++cap.toList) hs gl<|yd ⟨_,_,rfl,hc x x.2,_,_,rfl,hc y y.2,rfl⟩ IK
 have ea:([Value.agg (chunk k xs x).toArray,Value.agg (chunk k xs y).toArray]++cap.toList).toArray= #[Value.agg (chunk k xs x).toArray,Value.agg (chunk k xs y).toArray]++cap:=by simp
 rw[ea] at hr;refine hr.mono ?_;rintro e w' ⟨v,rfl,hb,H',_,_,hv⟩;have hv:v= .int .i64 (cf x y):=hv;subst hv;exact⟨rfl,XW hb⟩
end
section
open Go.Shelf
variable[D:DR]
variable{α:Type}{k:Nat}{cur:ath apU}
theorem Gx[Inhabited α]{enc:α->ard apU}(hk:∀x,(enc x).length=k){d:ath α}{i:Nat}(hi:i<d.size):chunk k (Go.Sort.flatK enc k d).toList i=enc d[i]! :=by
 have hb:i*k+k<=d.size*k:=by
  have:=mI k<|show i+1<=d.size from hi
  rwa [om,vw] at this
 apply Ix;intro t;unfold chunk;rw[Ao];by_cases ht:t<k
 ·rw[if_pos ht,yF,uR];have hlt:i*k+t<d.size*k:=by omega
  have e1:(i*k+t)/k=i:=by rw[oI,Nat.mul_add_div (by omega),Nat.div_eq_of_lt ht,tG]
  have e2:(i*k+t)%k=t:=by rw[oI,Nat.mul_add_mod,zC ht]
  have hl:=hk d[i]!;unfold Go.Sort.flatK;rw[Array.getElem?_map,Array.getElem?_range,if_pos hlt,xB,e1,e2,oq (enc d[i]!) t (by omega),kb (by omega)]
 ·rw[if_neg ht,L1 (by rw[hk];omega)]
theorem Ce{n:Nat}{xs:ard apU}{w:apT}{blk:Nat}{E:aq9}[Inhabited<|Fin n](hl:xs.length=n*k)(hb:w.heap[blk]? =some (.cells cur E (0,0)))(ht:cur.toList.take (n*k)=xs):
  Go.Sort.HoldsK (fun i:Fin n=>chunk k xs i) k w blk 0 (Array.ofFn fun i:Fin n=>i):=by
 unfold Go.Sort.HoldsK Go.Sort.Holds;intro j hj;rw[Go.Sort.size_flatK,BX] at hj;have Gp:cur[j]? =xs[j]? :=by rw[<-ht,Ao,if_pos hj,uR]
 have hk:0<k:=(wH k).elim (fun e=>by subst e;simp at hj) id;have hi:j/k<n:=Nat.div_lt_of_lt_mul (by rw[oI];exact hj);refine⟨?_,by simp[World.frozen?,hb]⟩;rw[Go.Sort.get_flatK _ _ _ _ (by simpa using hj),vy];rw[Iu hb,Gp];have e1:(Array.ofFn fun i:Fin n=>i)[j/k]! =⟨j/k,hi⟩:=by rw[oq (Array.ofFn fun i:Fin n=>i) (j/k) (by simpa using hi)];simp
 rw[e1];have hg:=Qt hl hj;have hlt:j%k<(chunk k xs<|j/k).length:=by rw[qd hl hi];exact tF _ hk
 show xs[j]? =some (id (chunk k xs<|j/k)[j%k]!);rw[<-hg,oq (chunk k xs<|j/k) (j%k) hlt,kb hlt];rfl
theorem w7[Inhabited α]{enc:α->ard apU}{w:apT}{blk m:Nat}{dk:ath α}{os:ath Obj}{E:aq9}{fr:Nat×Nat}(hb:w.heap[blk]? =some (.cells cur E fr)):
  (sortWorldK enc k w blk 0 m dk os).heap[blk]? =some (.cells (Go.Sort.putCells id 0 (Go.Sort.flatK enc k dk) cur) E fr):=by
 unfold sortWorldK Go.Sort.grow Go.Sort.putRowK Go.Sort.putRow Go.Sort.mapBlock Go.Sort.ahead;simp only[L2,Array.size_modify,lt_of_heap hb,if_pos,B8,hb,xB]
 rfl
theorem FG[Inhabited α]{d:ath apU}(h:d.size<=cur.size):(Go.Sort.putCells id 0 d cur).toList.take d.size=d.toList:=by
 apply Ix;intro i;rw[Ao];split
 ·rename_i hi;rw[uR,uR];unfold Go.Sort.putCells;rw[Array.getElem?_mapIdx,EI (by omega:i<cur.size),xB,if_pos ⟨jc _,by omega⟩,Nat.sub_zero,EI hi,oq d i hi];rfl
 ·rename_i hi;rw[L1 (by simpa using hi)]
end
section
open Go.Shelf
variable[D:DR]
variable{P:Program}{ρ:Ren}{A:Type}[DecidableEq A]{τ:A->Ty}{k:Nat}{c:A×A->Option Int}
variable{l r:ard A}
theorem Zb{α:Type}{l:ard α}{d:ath (Fin l.length)}(h:d.toList.Perm (Array.ofFn fun i:Fin l.length=>i).toList):(d.toList.map fun i=>l[i]).Perm l:=by
 have h1:=h.map fun i:Fin l.length=>l[i]
 have e:(Array.ofFn fun i:Fin l.length=>i).toList.map (fun i:Fin l.length=>l[i])=l:=by
  rw[RG,List.map_ofFn];exact List.ofFn_getElem
 rwa [e] at h1
theorem PO(hm:gU l c=some r)[Inhabited<|Fin l.length]{cf:Fin l.length->Fin l.length->Int}(tot:∀i j,c (l[i],l[j])=some (cf i j)){d:ath (Fin l.length)}
 (hp:Go.Sort.PermIn 0 l.length (Array.ofFn fun i:Fin l.length=>i) d)(hs:Go.Sort.SortedIn (ltOf cf) 0 l.length d):d.size=l.length/\(d.toList.map fun i=>l[i])=r:=by
 obtain⟨h1,h2,_,_⟩:=vM hm;obtain⟨hz,_,Qk⟩:=hp;rw[BX] at hz;have e1:d.extract 0 d.size=d:=Array.extract_size;rw[hz] at e1;have e2:(Array.ofFn fun i:Fin l.length=>i).extract 0 l.length=Array.ofFn fun i:Fin l.length=>i:=by
  have h:(Array.ofFn fun i:Fin l.length=>i).extract 0 (Array.ofFn fun i:Fin l.length=>i).size=Array.ofFn fun i:Fin l.length=>i:=Array.extract_size
  rwa [BX] at h
 rw[e1,e2] at Qk;have Pk:=Zb Qk;refine⟨hz,PN h2 (Pk.trans h1.symm) ?_⟩;refine L7.2 fun i j hi hj Sv=>?_
 simp only[fW,gi] at hi hj;have hlt:=hs i j (jc _) Sv (by omega);rw[oq d j hj,oq d i hi] at hlt;simp only[List.getElem_map,Array.getElem_toList];have hn: ¬cf d[j] d[i]<0:=by simpa[ltOf] using hlt
 have mem:∀i:Fin l.length,l[i]∈r:=fun i=>h1.mem_iff.2<|qz _
 have:=mt (HE h2 (mem d[j]) (mem d[i])<|tot d[j] d[i]).2 hn;omega
theorem S4(hm:gU l c=some r){cf:Fin l.length->Fin l.length->Int}(tot:∀i j,c (l[i],l[j])=some (cf i j)):Go.Sort.SWO (ltOf cf):=by
 obtain⟨h1,h2,_,_⟩:=vM hm;have mem:∀i:Fin l.length,l[i]∈r:=fun i=>h1.mem_iff.2<|qz _
 have key:∀i j,ltOf cf i j=decide (r.idxOf l[i]<r.idxOf l[j]):=fun i j=>by
  unfold ltOf;exact zB.2<|HE h2 (mem i) (mem j)<|tot i j
 refine⟨fun x=>?_,fun x y z h1 h2=>?_,fun x y z h1 h2=>?_⟩
 ·rw[key];simp
 ·rw[key] at*;simp only[jJ] at*;omega
 ·rw[key] at*;simp only[kE] at*;omega
theorem Th(hn:∀a,(τ a).n=k)(ha:∀a,(τ a).agg=true){xs:ard apU}{H:HV}{w:apT}{blk kI:Nat}{cur:ath apU}{E:aq9}{B:aq P}(sub:∀r o,H r=some o->w.heap[r]? =some o)(gq:uD H (lT τ l) xs)
 (hown:∀b,Value.ownBlock (.slice (some ⟨blk,0,none⟩) l.length kI)=some b->H b=none/\B.mg b)(hblk:w.heap[blk]? =some (.cells cur E (0,0)))(hnc:l.length<=kI)(hcm:kI<=maxLen)(hcs:cur.size=kI*k)[Inhabited<|Fin l.length]
 {d':ath (Fin l.length)}(hdz:d'.size=l.length)(XT:(d'.toList.map fun i=>l[i])=r)(m:Nat)(os:ath Obj):
  I2 (fun b=>Value.ownBlock (.slice (some ⟨blk,0,none⟩) l.length kI)=some b) w H (sortWorldK (fun i:Fin l.length=>chunk k xs i) k w blk 0 m d' os) H/\vN B (sortWorldK (fun i:Fin l.length=>chunk k xs i) k w blk 0 m d' os) H E k (lT τ r) (.slice (some ⟨blk,0,none⟩) l.length kI):=by
 obtain⟨FT,R0⟩:=pc hn ha gq;have hrl:r.length=l.length:=by rw[<-XT];simpa using hdz
 have tN:=w7 (enc:=fun i:Fin l.length=>chunk k xs i) (k:=k) (m:=m) (dk:=d') (os:=os) hblk;have Sw:(Go.Sort.flatK (fun i:Fin l.length=>chunk k xs i) k d').size=l.length*k:=by rw[Go.Sort.size_flatK,hdz]
 have hle:l.length*k<=cur.size:=by rw[hcs];exact mI k hnc
 have RY:=FG (α:=Fin l.length) (d:=Go.Sort.flatK (fun i:Fin l.length=>chunk k xs i) k d') (cur:=cur) (by rw[Sw];exact hle);refine⟨Tr.AN (M:=fun b=>Value.ownBlock (.slice (some ⟨blk,0,.none⟩) l.length kI)=some b) ⟨wo,rfl,rfl,rfl,?_,fun i hi hne=>nQ hi (fun e=>hne (by rw[e];rfl))⟩ sub fun b hb=>(hown b hb).1,
   ⟨(Go.Sort.flatK (fun i:Fin l.length=>chunk k xs i) k d').toList,?_,?_,hown⟩⟩
 ·refine GN.of ?_;show w.drawn<=(sortWorldK _ k w blk 0 m d' os).drawn;unfold sortWorldK Go.Sort.grow Go.Sort.putRowK Go.Sort.putRow Go.Sort.mapBlock Go.Sort.ahead;exact B2 _ _
 ·have NX:(lT τ r).length=l.length:=by rw[fW,hrl]
  rw[NX];refine⟨by rw[gi,Sw],.inr ⟨blk,kI,_,rfl,jc _,tN,hnc,hcm,?_,?_⟩⟩
  ·rw[<-hcs];simp[Go.Sort.putCells]
  ·rw[<-Sw];exact RY
 ·refine vi (by rw[gi,Sw,hrl]) fun i hi=>?_
  have XQ:i<d'.size:=by omega
  rw[Gx (fun i=>qd FT i.2) XQ];rw[oq d' i XQ];have e:r[i]=l[d'[i]]:=by
   have:r[i]? =(d'.toList.map fun i=>l[i])[i]? :=by rw[XT]
   rw[kb hi,mH,uR,EI XQ] at this;simpa using this
  rw[e];exact R0 _ d'[i].2
set_option maxHeartbeats 1000000 in
theorem uu(L:SlLaysF0.n6 P ρ)(aE:∀w,(isAgg<|ρ.t 24).run P w= .ok true w)(zE:∀w,(Go.sizeOf<|ρ.t 24).run P w= .ok k w)(hc:dY P (ρ.f 6)=true)
 (hn:∀a,(τ a).n=k)(ha:∀a,(τ a).agg=true)(none:∀(p:atg Addr) (cap:Nat) (fv:apU) (w:apT),Calls P (ρ.f 6) #[.slice p 0 cap,fv] w fun e w'=>e= .returned (.tuple #[])/\w'=w)
 (hm:gU l c=some r):
  fF P (ρ.f 6) [] (.buf (ρ.t 24) k<|lT τ l) (.buf (ρ.t 24) k<|lT τ r) [Fj P (fun x:A×A=>[τ x.1,τ x.2]) (fun x:Int=>[(TI .i64) x]) c] []:=by
 obtain⟨h1,h2,h3,h4⟩:=vM hm;refine⟨hc,fun w H v ps qs sub gl hp hq hs=>?_⟩;have hp:=xo hp;subst hp;obtain⟨fv,rfl,hfv⟩:=sZ hq;obtain⟨g,cap,oT,rfl,IK,hf⟩:=hfv;obtain⟨xs,hown,gq,hH⟩:=hs;have hlen:(lT τ l).length=l.length:=fW ..;rw[hlen] at hown;have AN:∀b,v.ownBlock=some b->H b= .none:=fun b hb=>(hH b hb).1
 by_cases hl0:l=[]
 ·subst hl0;have hr:r=[]:=List.Perm.eq_nil h1;subst hr;obtain⟨p,kI,rfl⟩:∃p kI,v= .slice p 0 kI:=by
   rcases hown.2 with⟨hv,_⟩|⟨g,cap,cur,hv,_⟩
   ·exact⟨_,_,hv⟩
   ·exact⟨_,_,hv⟩
  refine(none p kI _ w).mono ?_;rintro e w' ⟨rfl,rfl⟩;exact⟨_,rfl,H,(Tr.refl _ _).AN sub AN,⟨xs,hown,gq,hH⟩,fun b hb=> .inl hb,#[],rfl,rfl⟩
 ·have hpos:0<l.length:=B5.2 hl0;obtain⟨blk,kI,cur,rfl,hblk,hnc,hcm,hcs,htake⟩:∃blk kI cur,v= .slice (some ⟨blk,0,.none⟩) l.length kI/\w.heap[blk]? =some (.cells cur (ρ.t 24) (0,0))/\l.length<=kI/\kI<=maxLen/\cur.size=kI*k/\cur.toList.take (l.length*k)=xs:=by
   rcases hown.2 with⟨_,hz⟩|⟨g,cap,cur,hv,_,r⟩
   ·omega
   ·exact⟨g,cap,cur,hv,r⟩
  haveI:Inhabited (Fin l.length):=⟨⟨0,hpos⟩⟩
  obtain⟨FT,R0⟩:=pc hn ha gq
  let cf:Fin l.length->Fin l.length->Int:=fun i j=>(c (l[i],l[j])).getD 0
  have tot:∀i j:Fin l.length,c (l[i],l[j])=some (cf i j):=fun i j=>by
   obtain⟨v,hv⟩:=h3 _ (qz i.2) _<|qz j.2
   have hv:c (l[i],l[j])=some v:=hv;show c (l[i],l[j])=some ((c (l[i],l[j])).getD 0);rw[hv];rfl
  have hB:H blk= .none:=AN blk rfl;have Wb:=al.can (D:=DR.strict)<|hf _ _<|tot ⟨0,hpos⟩ ⟨0,hpos⟩
  have hcmp:=Ot (P:=P) (off:=0) hn ha gq sub gl hB IK hf cf tot;have hd:(Array.ofFn fun i:Fin l.length=>i).size=l.length:=BX;have main:=AnyQ.slices_SortFunc L k aE zE (fun i:Fin l.length=>chunk k xs i) (fun i=>qd FT i.2)
   (fun i u hu=>vT gq u<|yG<|tC hu) cf (S4 hm tot) g cap blk 0 kI (Array.ofFn fun i:Fin l.length=>i) w
   (fun args w=>jo Wb args w) (by rw[hd];exact hcmp) (Ce FT hblk htake) (lt_of_heap hblk) (by rw[hd];exact h4)
  rw[hd] at main;refine main.mono ?_;rintro e w' ⟨rfl,d',m,os,Qk,ab5,rfl⟩;obtain⟨hdz,XT⟩:=PO hm tot Qk ab5;obtain⟨ht,hr⟩:=Th hn ha (B:=aq.JH P w fun b=>(bL.buf (ρ.t 24) k<|lT τ l).owns w (.slice (some ⟨blk,0,.none⟩) l.length kI) b) sub gq hH hblk hnc hcm hcs hdz XT m os;exact⟨_,rfl,H,ht,hr,fun b hb=> .inl hb,#[],rfl,rfl⟩
theorem aa2(L:SlLaysE0.n35 P ρ)(aE:∀w,(isAgg<|ρ.t 23).run P w= .ok true w)(zE:∀w,(Go.sizeOf<|ρ.t 23).run P w= .ok k w)(hc:dY P (ρ.f 35)=true)
 (hn:∀a,(τ a).n=k)(ha:∀a,(τ a).agg=true)(hm:Js l=some r):
  fF P (ρ.f 35) [] (.buf (ρ.t 23) k<|lT τ l) (.buf (ρ.t 23) k<|lT τ r) [] []:=by
 have hm:=fj hm;refine⟨hc,fun w H v ps qs sub gl hp hq hs=>?_⟩;have hp:=xo hp;subst hp;have hq:=xo hq;subst hq;obtain⟨xs,hown,gq,hH⟩:=hs;have hlen:(lT τ l).length=l.length:=fW ..;rw[hlen] at hown;have AN:∀b,v.ownBlock=some b->H b= .none:=fun b hb=>(hH b hb).1
 by_cases hl0:l=[]
 ·subst hl0;subst hm;obtain⟨p,kI,rfl⟩:∃p kI,v= .slice p 0 kI:=by
   rcases hown.2 with⟨hv,_⟩|⟨g,cap,cur,hv,_⟩
   ·exact⟨_,_,hv⟩
   ·exact⟨_,_,hv⟩
  refine(AnyQ.slices_Reverse_empty L p kI w).mono ?_;rintro e w' ⟨rfl,rfl⟩;exact⟨_,rfl,H,(Tr.refl _ _).AN sub AN,⟨xs,hown,gq,hH⟩,fun b hb=> .inl hb,#[],rfl,rfl⟩
 ·have hpos:0<l.length:=B5.2 hl0;obtain⟨blk,kI,cur,rfl,hblk,hnc,hcm,hcs,htake⟩:∃blk kI cur,v= .slice (some ⟨blk,0,.none⟩) l.length kI/\w.heap[blk]? =some (.cells cur (ρ.t 23) (0,0))/\l.length<=kI/\kI<=maxLen/\cur.size=kI*k/\cur.toList.take (l.length*k)=xs:=by
   rcases hown.2 with⟨_,hz⟩|⟨g,cap,cur,hv,_,r⟩
   ·omega
   ·exact⟨g,cap,cur,hv,r⟩
  haveI:Inhabited (Fin l.length):=⟨⟨0,hpos⟩⟩
  obtain⟨FT,R0⟩:=pc hn ha gq;have hd:(Array.ofFn fun i:Fin l.length=>i).size=l.length:=BX;have main:=AnyQ.slices_Reverse L k aE zE (fun i:Fin l.length=>chunk k xs i) (fun i=>qd FT i.2)
   (fun i u hu=>vT gq u<|yG<|tC hu) blk 0 kI (Array.ofFn fun i:Fin l.length=>i) w
   (Ce FT hblk htake) (by rw[hd];exact fc hnc hcm)
  rw[hd] at main;refine main.mono ?_;rintro e w' ⟨rfl,m,hw⟩;have hw:w'=sortWorldK (fun i:Fin l.length=>chunk k xs i) k w blk 0 m (Array.ofFn fun i:Fin l.length=>i).reverse #[]:=by rw[hw];simp[sortWorldK]
  subst hw;have St:((Array.ofFn fun i:Fin l.length=>i).reverse.toList.map fun i=>l[i])=r:=by
   rw[Array.toList_reverse,List.map_reverse,RG,List.map_ofFn];rw[<-hm];exact congrArg List.reverse List.ofFn_getElem
  obtain⟨ht,hr⟩:=Th hn ha (B:=aq.JH P w fun b=>(bL.buf (ρ.t 23) k<|lT τ l).owns w (.slice (some ⟨blk,0,.none⟩) l.length kI) b) sub gq hH hblk hnc hcm hcs (by simp) St m #[];exact⟨_,rfl,H,ht,hr,fun b hb=> .inl hb,#[],rfl,rfl⟩
end
section
open Go.Shelf Go.Sort
variable[D:DR]
variable{n:Nat}{dk:ath (Fin n)}{kp:Nat->Bool}{k m kk blk off:Nat}
structure Fk(n:Nat)(kp:Nat->Bool)(m kk:Nat)(dk:ath (Fin n)):Prop where
 size:dk.size=n
 le:kk<m
 low:(dk.toList.take kk).map (·.val)=(List.range m).filter kp
 high:∀j (hj:j<n),m-1<=j->∀h:j<dk.size,dk[j]=⟨j,hj⟩
theorem Fk.len(h:Fk n kp m kk dk)(hm:m<=n):kk=((List.range m).filter kp).length:=by
 rw[<-h.low,fW,List.length_take,gi,h.size];have:=h.le;omega
theorem Fk.start(hk:k<n)(hall:∀j,j<k->kp j=true)(hn:kp k=false):Fk n kp (k+1) k (Array.ofFn fun i:Fin n=>i):=by
 refine⟨by simp,by omega,?_,fun j hj _ h=>by simp⟩;rw[List.range_succ,List.filter_append,List.filter_eq_self.2<|fun j hj=>hall j<|rA.1 hj];have e:List.filter kp [k]=[]:=by simp[hn]
 rw[e,vB,RG];apply Ix;intro i;rw[mH,Ao];by_cases hi:i<k
 ·rw[if_pos hi,kb (by simp;omega),kb (by simpa using hi)];simp
 ·rw[if_neg hi,L1 (by simpa using hi)];rfl
theorem Fk.skip(h:Fk n kp m kk dk)(hn:kp m=false):Fk n kp (m+1) kk dk:=by
 have:=h.le;refine⟨h.size,by omega,?_,fun j hj hm=>h.high j hj (by omega)⟩;rw[List.range_succ,List.filter_append,<-h.low];simp[hn]
theorem Fk.kF(h:Fk n kp m kk dk)(hm:m<n)(hn:kp m=true):Fk n kp (m+1) (kk+1) (dk.setIfInBounds kk ⟨m,hm⟩):=by
 have h0:=h.le;refine⟨by simp[h.size],by omega,?_,fun j hj hm' h2=>?_⟩
 ·rw[List.range_succ,List.filter_append,<-h.low];have e:List.filter kp [m]=[m]:=by simp[hn]
  rw[e];have hs:=h.size;have hkk:kk<dk.toList.length:=by rw[gi,hs];omega
  rw[L9,LN,List.take_set_of_le<|bC _,EH hkk,List.map_append]
  rfl
 ·rw[Array.getElem_setIfInBounds (by simpa using h2),if_neg (by omega)];exact h.high j hj (by omega) _
theorem afV{P:arb}{A:Type}{τ:A->Ty}{H:HV}{c:A×A->atg Bool}(hn:∀a,(τ a).n=k)(ha:∀a,(τ a).agg=true){l:ard A}{xs:ard apU}{w:apT}{g:Nat}{cap:ath apU}{oT:ard Ty}(hxs:uD H (lT τ l) xs)
 (sub:∀r o,H r=some o->w.heap[r]? =some o)(gl:pI P H)(hB:H blk=none)(IK:BF H oT cap.toList)
 (hf:∀a r,c a=some r-> @al DR.strict P g ([τ a.1,τ a.2]++oT) (.vs [aY r]))[Inhabited<|Fin l.length](m:Nat)(os:ath Obj)(dk:ath (Fin l.length))(x y:Fin l.length){b:Bool}(hb:c (l[x],l[y])=some b):
  Calls P g (#[.agg (chunk k xs x).toArray,.agg (chunk k xs y).toArray]++cap) (sortWorldK (fun i:Fin l.length=>chunk k xs i) k w blk off m dk os) fun e w'=>e= .returned (.bool b)/\∃q os',w'=Go.Sort.grow ((sortWorldK (fun i:Fin l.length=>chunk k xs i) k w blk off m dk os).drewN q) os':=by
 obtain⟨_,hc⟩:=pc hn ha hxs;have hs:∀r o,H r=some o->(sortWorldK (fun i:Fin l.length=>chunk k xs i) k w blk off m dk os).heap[r]? =some o:=fun r o h=>by
  have h1:=sub r o h;rw[nQ (lt_of_heap h1) (fun e=>by rw[e,hB] at h;cases h)];exact h1
 have hr:=al.run (D:=DR.strict) (hf (l[x],l[y]) _ hb) _ H ([Value.agg (chunk k xs x).toArray,Value.agg (chunk k xs y).toArray]++cap.toList) hs gl<|yd ⟨_,_,rfl,hc x x.2,_,_,rfl,hc y y.2,rfl⟩ IK
 have ea:([Value.agg (chunk k xs x).toArray,Value.agg (chunk k xs y).toArray]++cap.toList).toArray= #[Value.agg (chunk k xs x).toArray,Value.agg (chunk k xs y).toArray]++cap:=by simp
 rw[ea] at hr;refine hr.mono ?_;rintro e w' ⟨v,rfl,hb,H',_,_,hv⟩;have hv:v= .bool b:=hv;subst hv;exact⟨rfl,XW hb⟩
theorem uZ{cs:ath apU}:(Builtin.zeroCells cs n).toList.length=n*cs.size:=by simp[Builtin.zeroCells]
theorem OS{cs:ath apU}(h:∀v∈cs.toList,v.oneCell'=true):∀v∈(Builtin.zeroCells cs n).toList,v.oneCell'=true:=by
 intro v hv;unfold Builtin.zeroCells at hv;rw[Array.toList_map,mF] at hv;obtain⟨i,hi,rfl⟩:=hv;have hi:i<n*cs.size:=by simpa using hi
 have hp:0<cs.size:=(wH cs.size).elim (fun e=>by rw[e] at hi;simp at hi) id;have hm:=tF i hp;rw[oq cs (i%cs.size) hm];exact h _ (by simp)
theorem wv{P:arb}{W:apT}{S E ty:aq9}{z:apU}{c s:Nat}{F:ath apU}(hS:P.underlying S=some (.slice E))(hz:∀w,(zeroValue E).run P w= .ok z w)(h1:∀v∈z.cells.toList,v.oneCell'=true)(h:Holds id W blk off F)
 (hs:s+n*z.cells.size<=F.size)(hn:0<n):(Builtin.clear_ #[S] ty #[.slice (some ⟨blk,off+s,none⟩) n c]).run P W= .ok (.tuple #[]) (W.setCells blk (off+s) (Builtin.zeroCells z.cells n).toList):=by
 have wj:=stores_of_holds P h s (Builtin.zeroCells z.cells n).toList (by rw[uZ];exact hs)<|OS h1
 obtain⟨n,rfl⟩:∃m,n=m+1:=⟨n-1,by omega⟩;unfold Builtin.clear_;simp[eN,aO hS,hz,wj,Result.andThen]
theorem S8[Inhabited<|Fin n]{enc:Fin n->ard apU}(hk:∀x,(enc x).length=k){i:Nat}(hi:i<dk.size)(x:Fin n):setMany (flatK enc k dk) (i*k) (enc x)=flatK enc k (dk.setIfInBounds i x):=by
 refine ext_get! (by simp) fun t ht=>?_
 have ht':t<dk.size*k:=by simpa using ht
 have k0:0<k:=(wH k).elim (fun h=>by subst h;simp at ht') id;rw[get_setMany _ _ _ t (by simpa using ht'),get_flatK _ _ _ t ht',get_flatK _ _ _ t (by simpa using ht'),hk];by_cases a:t/k=i
 ·rw[if_pos<|(blk_iff k i t k0).2 a];have m:t-i*k=t%k:=by subst a;rw[Nat.mod_eq_sub_div_mul]
  rw[m,a,oq (dk.setIfInBounds i x) i (by simpa using hi),Array.getElem_setIfInBounds_self]
 ·rw[if_neg<|fun h=>a<|(blk_iff k i t k0).1 h];have hd:t/k<dk.size:=Nat.div_lt_of_lt_mul (by rw[oI];exact ht');rw[oq (dk.setIfInBounds i x) (t/k) (by simpa using hd),oq dk (t/k) hd,Array.getElem_setIfInBounds_ne _<|fun e=>a e.symm]
theorem QW[Inhabited<|Fin n]{enc:Fin n->ard apU}{w0 W:apT}(h:SWK enc k w0 blk off dk W)(hk:∀x,(enc x).length=k)(hblk:blk<w0.heap.size){i:Nat}(hi:i<dk.size)(x:Fin n):
  SWK enc k w0 blk off (dk.setIfInBounds i x) (W.setCells blk (off+i*k)<|enc x):=by
 obtain⟨m,os,rfl⟩:=h;refine⟨m,os,?_⟩;have hb:i*k+k<=dk.size*k:=by
  have:=mI k<|show i+1<=dk.size from hi
  rwa [om,vw] at this
 unfold sortWorldK;rw[setCells_grow os blk _ _ _ (by show blk<(putRowK enc k _ blk off dk).heap.size;rw[size_putRowK];exact hblk)]
 congr 1
 unfold putRowK;rw[setCells_putRow _ _ _ _ _ _ (by rw[hk,size_flatK];exact hb),S8 hk hi]
end
end Trn
namespace Sk
section
open Go.Shelf Go.Lib Go.Sort
variable{P:Program}{k n:Nat}
set_option maxHeartbeats 4000000 in
set_option maxRecDepth 1000000 in
theorem Z5(F:P.funcs[82]? =some f82)(mixed:P.follows .mixedOrders=true)(t0:P.underlying 0=prog.underlying 0)(t3:P.underlying 3=some (.int .i64))(a3:∀w,(isAgg 3).run P w= .ok false w)(z3:∀w,(Go.sizeOf 3).run P w= .ok 1 w)(v3:∀w,(zeroValue 3).run P w= .ok (.int .i64 0) w)(t4:P.underlying 4=some .bool)(a4:∀w,(isAgg 4).run P w= .ok false w)(z4:∀w,(Go.sizeOf 4).run P w= .ok 1 w)(t144:P.underlying 144=some (.slice 87))(a144:∀w,(isAgg 144).run P w= .ok false w)(z144:∀w,(Go.sizeOf 144).run P w= .ok 1 w)
 (a87:∀w,(isAgg 87).run P w= .ok true w)(z87:∀w,(Go.sizeOf 87).run P w= .ok k w)(zv:Value)(v87:∀w,(zeroValue 87).run P w= .ok zv w)(hzs:zv.cells.size=k)(hz1:∀v∈zv.cells.toList,v.oneCell'=true)[Inhabited<|Fin n](enc:Fin n->List Value)(hk:∀x,(enc x).length=k)(h1:∀x,∀v∈enc x,v.oneCell'=true)(g:Nat)(cb:Array Value)(kp:Nat->Bool)(k0:kp 0=true)(blk off cap:Nat)(w:World)
 (eg:∀args w,(callFunc g args).run P w= .ok (.enter g args) w)(hH:HoldsK enc k w blk off (Array.ofFn fun i:Fin n=>i))(hblk:blk<w.heap.size)(hcap:n<=cap)(hsz:n<=9223372036854775807)
 (hcmp:∀(m:Nat) (os:Array Obj) (dk:Array (Fin n)) (j:Nat) (hj:j+1<n),Calls P g (#[.agg (enc ⟨j+1,hj⟩).toArray,.agg (enc ⟨j,Nat.lt_of_succ_lt hj⟩).toArray]++cb) (sortWorldK enc k w blk off m dk os) fun e w'=>e= .returned (.bool<| !kp (j+1))/\∃q os',w'=grow ((sortWorldK enc k w blk off m dk os).drewN q) os'):
  Calls P 82 #[.slice (some ⟨blk,off,none⟩) n cap,.func (.func g) #[] cb] w fun e w'=>∃kk dk zs W,e= .returned (.slice (some ⟨blk,off,none⟩) kk cap)/\kk=((List.range n).filter kp).length/\SWK enc k w blk off dk W/\dk.size=n/\(dk.toList.take kk).map (·.val)=(List.range n).filter kp/\w'=W.setCells blk (off+kk*k) zs/\zs.length<=(n-kk)*k:=by
 have kz:∀j,j<1->kp j=true:=fun j hj=>by
  obtain rfl:j=0:=by omega
  exact k0
 have hpos:0<n:=Fin.pos default;have hd0:(Array.ofFn fun i:Fin n=>i).size=n:=Array.size_ofFn;have S0:Aside (SWK enc k w blk off (Array.ofFn fun i:Fin n=>i) w):=SWK.start hH;have RR:Aside (RowK enc k w blk off (Array.ofFn fun i:Fin n=>i)):=⟨hk,h1,hH,hblk⟩;have CM:Aside (∀(m:Nat) (os:Array Obj) (dk:Array (Fin n)) (j:Nat) (hj:j+1<n),Calls P g (#[.agg (enc ⟨j+1,hj⟩).toArray,.agg (enc ⟨j,Nat.lt_of_succ_lt hj⟩).toArray]++cb) (sortWorldK enc k w blk off m dk os) fun e w'=>e= .returned (.bool<| !kp (j+1))/\∃q os',w'=grow ((sortWorldK enc k w blk off m dk os).drewN q) os'):=hcmp;clear hH hk h1 hcmp;have all:∀W,SWK enc k w blk off (Array.ofFn fun i:Fin n=>i) W->(∀j,j<n->kp j=true)->∃kk dk zs W',(Ending.returned<| .slice (some ⟨blk,off,none⟩) n cap)= .returned (.slice (some ⟨blk,off,none⟩) kk cap)/\kk=((List.range n).filter kp).length/\SWK enc k w blk off dk W'/\dk.size=n/\(dk.toList.take kk).map (·.val)=(List.range n).filter kp/\W=W'.setCells blk (off+kk*k) zs/\zs.length<=(n-kk)*k:=fun W hW hall=>by
  have e:(List.range n).filter kp=List.range n:=List.filter_eq_self.2 fun j hj=>hall j<|List.mem_range.1 hj
  refine⟨n,_,[],W,rfl,by rw[e];simp,hW,hd0,?_,rfl,Nat.zero_le _⟩;rw[e,Array.toList_ofFn];apply List.ext_getElem
  ·simp
  ·intro i h1 h2;simp
 have ALL:Aside (∀W,SWK enc k w blk off (Array.ofFn fun i:Fin n=>i) W->(∀j,j<n->kp j=true)->∃kk dk zs W',(Ending.returned<| .slice (some ⟨blk,off,none⟩) n cap)= .returned (.slice (some ⟨blk,off,none⟩) kk cap)/\kk=((List.range n).filter kp).length/\SWK enc k w blk off dk W'/\dk.size=n/\(dk.toList.take kk).map (·.val)=(List.range n).filter kp/\W=W'.setCells blk (off+kk*k) zs/\zs.length<=(n-kk)*k):=all;clear all;by_cases h2:n<2
 ·go_enter F,ntmps82
  go_wp2
  go_ret
  exact ALL.out w S0.out fun j hj=>kz j (by omega)
 ·go_enter F,ntmps82
  go_wp2
  go_loopg [5] n (fun gg s5 wr=>∃kx:Nat,1<=kx/\kx<=n/\n-kx<=gg/\s5= .int .i64 kx/\Aside (SWK enc k w blk off (Array.ofFn fun i:Fin n=>i) wr)/\Aside (∀j,j<kx->kp j=true))
  case atStart=>exact⟨1,Nat.le_refl _,by omega,by omega,by first|rfl|go_num,S0,kz⟩
  case round=>
   clear S0;obtain⟨kx,hk1,hkn,hg,rfl,SW,HA⟩:=hrel;by_cases hlt:kx<n
   ·obtain⟨j,rfl⟩:∃j,kx=j+1:=⟨kx-1,by omega⟩;have jz:(j:Int)+1<(n:Int):=by omega
    have jz1:(j:Int)<(n:Int):=by omega
    have p0:(0:Int)<=(j:Int)+1:=by omega
    have e0:((j:Int)+1).toNat=j+1:=by omega
    have hwp:IntKind.i64.wrap (j:Int)=(j:Int):=by rw[IntKind.wrap_i64];omega
    obtain⟨cx,hcx⟩:∃c,(enc ⟨j+1,hlt⟩).toArray=c:=⟨_,rfl⟩;obtain⟨cy,hcy⟩:∃c,(enc ⟨j,Nat.lt_of_succ_lt hlt⟩).toArray=c:=⟨_,rfl⟩;have lj:∀n' os',Sem.run P (loadCellsFrom ⟨blk,off+(j+1)*k,none⟩ 0 k #[]) (grow (wr.drewN n') os')= .ok cx (grow (wr.drewN n') os'):=fun n' os'=>by
     have:=SW.out.ld RR.out (by rw[hd0]) P (j+1) (by rw[hd0];exact hlt) n' os';rw[this,<-hcx,getElem!_pos _ _ (by rw[hd0];exact hlt)];simp
    have lp:∀n' os',Sem.run P (loadCellsFrom ⟨blk,off+j*k,none⟩ 0 k #[]) (grow (wr.drewN n') os')= .ok cy (grow (wr.drewN n') os'):=fun n' os'=>by
     have:=SW.out.ld RR.out (by rw[hd0]) P j (by rw[hd0];omega) n' os';rw[this,<-hcy,getElem!_pos _ _ (by rw[hd0];omega)];simp
    have hcg:∀n' os',Calls P g (#[.agg cx,.agg cy]++cb) (grow (wr.drewN n') os') fun e w'=>e= .returned (.bool<| !kp (j+1))/\∃q os'',w'=grow ((grow (wr.drewN n') os').drewN q) os'':=fun n' os'=>by
     obtain⟨m,os0,hw⟩:=SW.out.grown n' os';rw[hw,<-hcx,<-hcy];exact CM.out m os0 _ j hlt
    cases hkp:kp (j+1) with
    |true=>
     rw[hkp,Bool.not_true] at hcg
     go_wp2_with fail
     go_quiet_grown (first|(go_at_fn g;refine Calls.grown_of<|hcg _ _))
     go_wp2
     go_roundg (n-(j+1+1))
     case measure=>omega
     case rel=>exact⟨j+1+1,by omega,by omega,Nat.le_refl _,by first|rfl|go_num,SW.out.grown nq osq,fun i hi=>by
      rcases Nat.lt_or_ge i (j+1) with h|h
      ·exact HA.out i h
      ·have:i=j+1:=by omega
       rw[this];exact hkp⟩
    |false=>
     rw[hkp,Bool.not_false] at hcg
     go_wp2_with fail
     go_quiet_grown (first|(go_at_fn g;refine Calls.grown_of<|hcg _ _))
     have SW1:Aside (SWK enc k w blk off (Array.ofFn fun i:Fin n=>i)<|grow (wr.drewN nq) osq):=SW.out.grown nq osq;clear lj lp hcg
     generalize grow (wr.drewN nq) osq=wq at SW1⊢
     go_wp2
     go_loopg [5,7] n (fun gg s5 s7 wr=>∃(kk k2:Nat) (dk:Array (Fin n)),s5= .int .i64 kk/\s7= .int .i64 k2/\1<=k2/\j+1+k2<=n/\n-(j+1+k2)<=gg/\Aside (SWK enc k w blk off dk wr)/\Aside (Trn.Fk n kp (j+1+k2) kk dk)/\kk<j+1+k2)
     case atStart=>exact⟨j+1,1,_,by first|rfl|go_num,rfl,Nat.le_refl _,by omega,by omega,SW1,Trn.Fk.start hlt HA.out hkp,by omega⟩
     case round=>
      clear SW1;obtain⟨kk,k2,dk,rfl,rfl,h21,hle,hg2,SW2,CI,hkk⟩:=hrel;have hdk:dk.size=n:=CI.out.size;by_cases hlt2:j+1+k2<n
      ·obtain⟨i,rfl⟩:∃i,k2=i+1:=⟨k2-1,by omega⟩;have iz:(i:Int)+1<((n-(j+1):Nat):Int):=by omega
       have iz1:(i:Int)<((n-(j+1):Nat):Int):=by omega
       have q0:(0:Int)<=(i:Int)+1:=by omega
       have f0:((i:Int)+1).toNat=i+1:=by omega
       have hwq:IntKind.i64.wrap (i:Int)=(i:Int):=by rw[IntKind.wrap_i64];omega
       have ea:off+(j+1)*k+(i+1)*k=off+(j+1+(i+1))*k:=by rw[Nat.add_assoc,<-Nat.add_mul]
       have eb:off+(j+1)*k+i*k=off+(j+1+i)*k:=by rw[Nat.add_assoc,<-Nat.add_mul]
       have ga:dk[j+1+(i+1)]! =⟨j+1+(i+1),hlt2⟩:=by rw[getElem!_pos dk _ (by omega)];exact CI.out.high _ hlt2 (by omega) _
       have gb:dk[j+1+i]! =⟨j+1+i,Nat.lt_of_succ_lt hlt2⟩:=by rw[getElem!_pos dk _ (by omega)];exact CI.out.high (j+1+i) (Nat.lt_of_succ_lt hlt2) (show j+1+(i+1)-1<=j+1+i by omega) _
       obtain⟨cu,hcu⟩:∃c,enc ⟨j+1+(i+1),hlt2⟩=c:=⟨_,rfl⟩;obtain⟨cv,hcv⟩:∃c,enc ⟨j+1+i,Nat.lt_of_succ_lt hlt2⟩=c:=⟨_,rfl⟩;have lu:∀n' os',Sem.run P (loadCellsFrom ⟨blk,off+(j+1)*k+(i+1)*k,none⟩ 0 k #[]) (grow (wr.drewN n') os')= .ok cu.toArray (grow (wr.drewN n') os'):=fun n' os'=>by
        have:=SW2.out.ld RR.out (by rw[hd0];exact hdk) P (j+1+(i+1)) (by omega) n' os';rw[ea,this,ga,hcu]
       have lv:∀n' os',Sem.run P (loadCellsFrom ⟨blk,off+(j+1)*k+i*k,none⟩ 0 k #[]) (grow (wr.drewN n') os')= .ok cv.toArray (grow (wr.drewN n') os'):=fun n' os'=>by
        have:=SW2.out.ld RR.out (by rw[hd0];exact hdk) P (j+1+i) (by omega) n' os';rw[eb,this,gb,hcv]
       have hcg:∀n' os',Calls P g (#[.agg cu.toArray,.agg cv.toArray]++cb) (grow (wr.drewN n') os') fun e w'=>e= .returned (.bool<| !kp (j+1+(i+1)))/\∃q os'',w'=grow ((grow (wr.drewN n') os').drewN q) os'':=fun n' os'=>by
        obtain⟨m,os0,hw⟩:=SW2.out.grown n' os';rw[hw,<-hcu,<-hcv];exact CM.out m os0 dk (j+1+i) hlt2
       have GU:Aside (dk[j+1+(i+1)]! =⟨j+1+(i+1),hlt2⟩/\enc ⟨j+1+(i+1),hlt2⟩=cu):=⟨ga,hcu⟩;clear ea eb ga gb hcu hcv;cases hkq:kp (j+1+(i+1)) with
       |true=>
        rw[hkq,Bool.not_true] at hcg
        go_wp2_with fail
        go_quiet_grown (first|(go_at_fn g;refine Calls.grown_of<|hcg _ _))
        have SW3:Aside (SWK enc k w blk off dk<|grow (wr.drewN nq) osq):=SW2.out.grown nq osq;have l3:=lu nq osq;clear lu lv hcg SW2
        generalize grow (wr.drewN nq) osq=wq at SW3 l3⊢
        have n3:cu.length=k:=by rw[<-GU.out.2];exact RR.out.hk _
        have s3:Sem.run P (storeCells ⟨blk,off+kk*k,none⟩ cu 0) wq= .ok () (wq.setCells blk (off+kk*k) cu):=by
         rw[<-GU.out.2];exact stores_of_holds P (SW3.out.holds RR.out.hblk RR.out.hH (by rw[hdk,hd0])) (kk*k) _ (by rw[RR.out.hk,size_flatK];exact rowK_bnd dk k kk (by omega))<|RR.out.h1 _
        have kz1:(kk:Int)<(n:Int):=by omega
        go_wp2
        go_roundg (n-(j+1+(i+1+1)))
        case measure=>omega
        case rel=>exact⟨kk+1,i+1+1,dk.setIfInBounds kk ⟨j+1+(i+1),hlt2⟩,by first|rfl|go_num,by first|rfl|go_num,by omega,by omega,Nat.le_refl _,by
         show SWK _ _ _ _ _ _ _;rw[<-GU.out.2];exact Trn.QW SW3.out RR.out.hk RR.out.hblk (by omega) _,CI.out.kF hlt2 hkq,by omega⟩
       |false=>
        rw[hkq,Bool.not_false] at hcg
        go_wp2_with fail
        go_quiet_grown (first|(go_at_fn g;refine Calls.grown_of<|hcg _ _))
        have SW3:Aside (SWK enc k w blk off dk<|grow (wr.drewN nq) osq):=SW2.out.grown nq osq;clear lu lv hcg SW2
        generalize grow (wr.drewN nq) osq=wq at SW3⊢
        go_wp2
        go_roundg (n-(j+1+(i+1+1)))
        case measure=>omega
        case rel=>exact⟨kk,i+1+1,dk,rfl,by first|rfl|go_num,by omega,by omega,Nat.le_refl _,SW3,CI.out.skip hkq,by omega⟩
      ·have hend:j+1+k2=n:=by omega
       have hcl:∀ty,(Builtin.clear_ #[144] ty #[.slice (some ⟨blk,off+kk*k,none⟩) (n-kk)<|cap-kk]).run P wr= .ok (.tuple #[]) (wr.setCells blk (off+kk*k) (Builtin.zeroCells zv.cells<|n-kk).toList):=fun ty=>
        Trn.wv t144 v87 hz1 (SW2.out.holds RR.out.hblk RR.out.hH (by rw[hdk,hd0])) (by rw[hzs,size_flatK,hdk,<-Nat.add_mul];exact Nat.mul_le_mul_right k (by omega)) (by omega)
       have kz1:(kk:Int)<=(n:Int):=by omega
       have hzl:(Builtin.zeroCells zv.cells<|n-kk).toList.length<=(n-kk)*k:=by rw[Trn.uZ,hzs];exact Nat.le_refl _
       generalize (Builtin.zeroCells zv.cells<|n-kk).toList=zl at hcl hzl
       clear v87 hzs hz1
       go_wp2
       go_ret
       have C:=CI.out;rw[hend] at C;exact⟨kk,dk,zl,wr,rfl,C.len<|Nat.le_refl _,SW2.out,hdk,C.low,rfl,hzl⟩
   ·have:kx=n:=by omega
    subst this
    go_wp2
    go_ret
    exact ALL.out wr SW.out HA.out
set_option maxHeartbeats 4000000 in
set_option maxRecDepth 1000000 in
theorem Z6(p:Option Addr)(m:Nat)(hm:m<2)(cap:Nat)(fv:Value)(w:World):Calls prog 82 #[.slice p m cap,fv] w fun e w'=>e= .returned (.slice p m cap)/\w'=w:=by
 go_enter func82,ntmps82
 go_wp2
 go_ret
 exact⟨rfl,rfl⟩
set_option maxHeartbeats 4000000 in
set_option maxRecDepth 1000000 in
theorem Wp(F:P.funcs[146]? =some f146)(mixed:P.follows .mixedOrders=true)(t0:P.underlying 0=prog.underlying 0)(t3:P.underlying 3=some (.int .i64))(a3:∀w,(isAgg 3).run P w= .ok false w)(z3:∀w,(Go.sizeOf 3).run P w= .ok 1 w)(v3:∀w,(zeroValue 3).run P w= .ok (.int .i64 0) w)(t4:P.underlying 4=some .bool)(a4:∀w,(isAgg 4).run P w= .ok false w)(z4:∀w,(Go.sizeOf 4).run P w= .ok 1 w)(t136:P.underlying 136=some (.slice 89))(a136:∀w,(isAgg 136).run P w= .ok false w)(z136:∀w,(Go.sizeOf 136).run P w= .ok 1 w)
 (a89:∀w,(isAgg 89).run P w= .ok true w)(z89:∀w,(Go.sizeOf 89).run P w= .ok k w)(zv:Value)(v89:∀w,(zeroValue 89).run P w= .ok zv w)(hzs:zv.cells.size=k)(hz1:∀v∈zv.cells.toList,v.oneCell'=true)[Inhabited<|Fin n](enc:Fin n->List Value)(hk:∀x,(enc x).length=k)(h1:∀x,∀v∈enc x,v.oneCell'=true)(g:Nat)(cb:Array Value)(kp:Nat->Bool)(k0:kp 0=true)(blk off cap:Nat)(w:World)
 (eg:∀args w,(callFunc g args).run P w= .ok (.enter g args) w)(hH:HoldsK enc k w blk off (Array.ofFn fun i:Fin n=>i))(hblk:blk<w.heap.size)(hcap:n<=cap)(hsz:n<=9223372036854775807)
 (hcmp:∀(m:Nat) (os:Array Obj) (dk:Array (Fin n)) (j:Nat) (hj:j+1<n),Calls P g (#[.agg (enc ⟨j+1,hj⟩).toArray,.agg (enc ⟨j,Nat.lt_of_succ_lt hj⟩).toArray]++cb) (sortWorldK enc k w blk off m dk os) fun e w'=>e= .returned (.bool<| !kp (j+1))/\∃q os',w'=grow ((sortWorldK enc k w blk off m dk os).drewN q) os'):
  Calls P 146 #[.slice (some ⟨blk,off,none⟩) n cap,.func (.func g) #[] cb] w fun e w'=>∃kk dk zs W,e= .returned (.slice (some ⟨blk,off,none⟩) kk cap)/\kk=((List.range n).filter kp).length/\SWK enc k w blk off dk W/\dk.size=n/\(dk.toList.take kk).map (·.val)=(List.range n).filter kp/\w'=W.setCells blk (off+kk*k) zs/\zs.length<=(n-kk)*k:=by
 have kz:∀j,j<1->kp j=true:=fun j hj=>by
  obtain rfl:j=0:=by omega
  exact k0
 have hpos:0<n:=Fin.pos default;have hd0:(Array.ofFn fun i:Fin n=>i).size=n:=Array.size_ofFn;have S0:Aside (SWK enc k w blk off (Array.ofFn fun i:Fin n=>i) w):=SWK.start hH;have RR:Aside (RowK enc k w blk off (Array.ofFn fun i:Fin n=>i)):=⟨hk,h1,hH,hblk⟩;have CM:Aside (∀(m:Nat) (os:Array Obj) (dk:Array (Fin n)) (j:Nat) (hj:j+1<n),Calls P g (#[.agg (enc ⟨j+1,hj⟩).toArray,.agg (enc ⟨j,Nat.lt_of_succ_lt hj⟩).toArray]++cb) (sortWorldK enc k w blk off m dk os) fun e w'=>e= .returned (.bool<| !kp (j+1))/\∃q os',w'=grow ((sortWorldK enc k w blk off m dk os).drewN q) os'):=hcmp;clear hH hk h1 hcmp;have all:∀W,SWK enc k w blk off (Array.ofFn fun i:Fin n=>i) W->(∀j,j<n->kp j=true)->∃kk dk zs W',(Ending.returned<| .slice (some ⟨blk,off,none⟩) n cap)= .returned (.slice (some ⟨blk,off,none⟩) kk cap)/\kk=((List.range n).filter kp).length/\SWK enc k w blk off dk W'/\dk.size=n/\(dk.toList.take kk).map (·.val)=(List.range n).filter kp/\W=W'.setCells blk (off+kk*k) zs/\zs.length<=(n-kk)*k:=fun W hW hall=>by
  have e:(List.range n).filter kp=List.range n:=List.filter_eq_self.2 fun j hj=>hall j<|List.mem_range.1 hj
  refine⟨n,_,[],W,rfl,by rw[e];simp,hW,hd0,?_,rfl,Nat.zero_le _⟩;rw[e,Array.toList_ofFn];apply List.ext_getElem
  ·simp
  ·intro i h1 h2;simp
 have ALL:Aside (∀W,SWK enc k w blk off (Array.ofFn fun i:Fin n=>i) W->(∀j,j<n->kp j=true)->∃kk dk zs W',(Ending.returned<| .slice (some ⟨blk,off,none⟩) n cap)= .returned (.slice (some ⟨blk,off,none⟩) kk cap)/\kk=((List.range n).filter kp).length/\SWK enc k w blk off dk W'/\dk.size=n/\(dk.toList.take kk).map (·.val)=(List.range n).filter kp/\W=W'.setCells blk (off+kk*k) zs/\zs.length<=(n-kk)*k):=all;clear all;by_cases h2:n<2
 ·go_enter F,ntmps146
  go_wp2
  go_ret
  exact ALL.out w S0.out fun j hj=>kz j (by omega)
 ·go_enter F,ntmps146
  go_wp2
  go_loopg [5] n (fun gg s5 wr=>∃kx:Nat,1<=kx/\kx<=n/\n-kx<=gg/\s5= .int .i64 kx/\Aside (SWK enc k w blk off (Array.ofFn fun i:Fin n=>i) wr)/\Aside (∀j,j<kx->kp j=true))
  case atStart=>exact⟨1,Nat.le_refl _,by omega,by omega,by first|rfl|go_num,S0,kz⟩
  case round=>
   clear S0;obtain⟨kx,hk1,hkn,hg,rfl,SW,HA⟩:=hrel;by_cases hlt:kx<n
   ·obtain⟨j,rfl⟩:∃j,kx=j+1:=⟨kx-1,by omega⟩;have jz:(j:Int)+1<(n:Int):=by omega
    have jz1:(j:Int)<(n:Int):=by omega
    have p0:(0:Int)<=(j:Int)+1:=by omega
    have e0:((j:Int)+1).toNat=j+1:=by omega
    have hwp:IntKind.i64.wrap (j:Int)=(j:Int):=by rw[IntKind.wrap_i64];omega
    obtain⟨cx,hcx⟩:∃c,(enc ⟨j+1,hlt⟩).toArray=c:=⟨_,rfl⟩;obtain⟨cy,hcy⟩:∃c,(enc ⟨j,Nat.lt_of_succ_lt hlt⟩).toArray=c:=⟨_,rfl⟩;have lj:∀n' os',Sem.run P (loadCellsFrom ⟨blk,off+(j+1)*k,none⟩ 0 k #[]) (grow (wr.drewN n') os')= .ok cx (grow (wr.drewN n') os'):=fun n' os'=>by
     have:=SW.out.ld RR.out (by rw[hd0]) P (j+1) (by rw[hd0];exact hlt) n' os';rw[this,<-hcx,getElem!_pos _ _ (by rw[hd0];exact hlt)];simp
    have lp:∀n' os',Sem.run P (loadCellsFrom ⟨blk,off+j*k,none⟩ 0 k #[]) (grow (wr.drewN n') os')= .ok cy (grow (wr.drewN n') os'):=fun n' os'=>by
     have:=SW.out.ld RR.out (by rw[hd0]) P j (by rw[hd0];omega) n' os';rw[this,<-hcy,getElem!_pos _ _ (by rw[hd0];omega)];simp
    have hcg:∀n' os',Calls P g (#[.agg cx,.agg cy]++cb) (grow (wr.drewN n') os') fun e w'=>e= .returned (.bool<| !kp (j+1))/\∃q os'',w'=grow ((grow (wr.drewN n') os').drewN q) os'':=fun n' os'=>by
     obtain⟨m,os0,hw⟩:=SW.out.grown n' os';rw[hw,<-hcx,<-hcy];exact CM.out m os0 _ j hlt
    cases hkp:kp (j+1) with
    |true=>
     rw[hkp,Bool.not_true] at hcg
     go_wp2_with fail
     go_quiet_grown (first|(go_at_fn g;refine Calls.grown_of<|hcg _ _))
     go_wp2
     go_roundg (n-(j+1+1))
     case measure=>omega
     case rel=>exact⟨j+1+1,by omega,by omega,Nat.le_refl _,by first|rfl|go_num,SW.out.grown nq osq,fun i hi=>by
      rcases Nat.lt_or_ge i (j+1) with h|h
      ·exact HA.out i h
      ·have:i=j+1:=by omega
       rw[this];exact hkp⟩
    |false=>
     rw[hkp,Bool.not_false] at hcg
     go_wp2_with fail
     go_quiet_grown (first|(go_at_fn g;refine Calls.grown_of<|hcg _ _))
     have SW1:Aside (SWK enc k w blk off (Array.ofFn fun i:Fin n=>i)<|grow (wr.drewN nq) osq):=SW.out.grown nq osq;clear lj lp hcg
     generalize grow (wr.drewN nq) osq=wq at SW1⊢
     go_wp2
     go_loopg [5,7] n (fun gg s5 s7 wr=>∃(kk k2:Nat) (dk:Array (Fin n)),s5= .int .i64 kk/\s7= .int .i64 k2/\1<=k2/\j+1+k2<=n/\n-(j+1+k2)<=gg/\Aside (SWK enc k w blk off dk wr)/\Aside (Trn.Fk n kp (j+1+k2) kk dk)/\kk<j+1+k2)
     case atStart=>exact⟨j+1,1,_,by first|rfl|go_num,rfl,Nat.le_refl _,by omega,by omega,SW1,Trn.Fk.start hlt HA.out hkp,by omega⟩
     case round=>
      clear SW1;obtain⟨kk,k2,dk,rfl,rfl,h21,hle,hg2,SW2,CI,hkk⟩:=hrel;have hdk:dk.size=n:=CI.out.size;by_cases hlt2:j+1+k2<n
      ·obtain⟨i,rfl⟩:∃i,k2=i+1:=⟨k2-1,by omega⟩;have iz:(i:Int)+1<((n-(j+1):Nat):Int):=by omega
       have iz1:(i:Int)<((n-(j+1):Nat):Int):=by omega
       have q0:(0:Int)<=(i:Int)+1:=by omega
       have f0:((i:Int)+1).toNat=i+1:=by omega
       have hwq:IntKind.i64.wrap (i:Int)=(i:Int):=by rw[IntKind.wrap_i64];omega
       have ea:off+(j+1)*k+(i+1)*k=off+(j+1+(i+1))*k:=by rw[Nat.add_assoc,<-Nat.add_mul]
       have eb:off+(j+1)*k+i*k=off+(j+1+i)*k:=by rw[Nat.add_assoc,<-Nat.add_mul]
       have ga:dk[j+1+(i+1)]! =⟨j+1+(i+1),hlt2⟩:=by rw[getElem!_pos dk _ (by omega)];exact CI.out.high _ hlt2 (by omega) _
       have gb:dk[j+1+i]! =⟨j+1+i,Nat.lt_of_succ_lt hlt2⟩:=by rw[getElem!_pos dk _ (by omega)];exact CI.out.high (j+1+i) (Nat.lt_of_succ_lt hlt2) (show j+1+(i+1)-1<=j+1+i by omega) _
       obtain⟨cu,hcu⟩:∃c,enc ⟨j+1+(i+1),hlt2⟩=c:=⟨_,rfl⟩;obtain⟨cv,hcv⟩:∃c,enc ⟨j+1+i,Nat.lt_of_succ_lt hlt2⟩=c:=⟨_,rfl⟩;have lu:∀n' os',Sem.run P (loadCellsFrom ⟨blk,off+(j+1)*k+(i+1)*k,none⟩ 0 k #[]) (grow (wr.drewN n') os')= .ok cu.toArray (grow (wr.drewN n') os'):=fun n' os'=>by
        have:=SW2.out.ld RR.out (by rw[hd0];exact hdk) P (j+1+(i+1)) (by omega) n' os';rw[ea,this,ga,hcu]
       have lv:∀n' os',Sem.run P (loadCellsFrom ⟨blk,off+(j+1)*k+i*k,none⟩ 0 k #[]) (grow (wr.drewN n') os')= .ok cv.toArray (grow (wr.drewN n') os'):=fun n' os'=>by
        have:=SW2.out.ld RR.out (by rw[hd0];exact hdk) P (j+1+i) (by omega) n' os';rw[eb,this,gb,hcv]
       have hcg:∀n' os',Calls P g (#[.agg cu.toArray,.agg cv.toArray]++cb) (grow (wr.drewN n') os') fun e w'=>e= .returned (.bool<| !kp (j+1+(i+1)))/\∃q os'',w'=grow ((grow (wr.drewN n') os').drewN q) os'':=fun n' os'=>by
        obtain⟨m,os0,hw⟩:=SW2.out.grown n' os';rw[hw,<-hcu,<-hcv];exact CM.out m os0 dk (j+1+i) hlt2
       have GU:Aside (dk[j+1+(i+1)]! =⟨j+1+(i+1),hlt2⟩/\enc ⟨j+1+(i+1),hlt2⟩=cu):=⟨ga,hcu⟩;clear ea eb ga gb hcu hcv;cases hkq:kp (j+1+(i+1)) with
       |true=>
        rw[hkq,Bool.not_true] at hcg
        go_wp2_with fail
        go_quiet_grown (first|(go_at_fn g;refine Calls.grown_of<|hcg _ _))
        have SW3:Aside (SWK enc k w blk off dk<|grow (wr.drewN nq) osq):=SW2.out.grown nq osq;have l3:=lu nq osq;clear lu lv hcg SW2
        generalize grow (wr.drewN nq) osq=wq at SW3 l3⊢
        have n3:cu.length=k:=by rw[<-GU.out.2];exact RR.out.hk _
        have s3:Sem.run P (storeCells ⟨blk,off+kk*k,none⟩ cu 0) wq= .ok () (wq.setCells blk (off+kk*k) cu):=by
         rw[<-GU.out.2];exact stores_of_holds P (SW3.out.holds RR.out.hblk RR.out.hH (by rw[hdk,hd0])) (kk*k) _ (by rw[RR.out.hk,size_flatK];exact rowK_bnd dk k kk (by omega))<|RR.out.h1 _
        have kz1:(kk:Int)<(n:Int):=by omega
        go_wp2
        go_roundg (n-(j+1+(i+1+1)))
        case measure=>omega
        case rel=>exact⟨kk+1,i+1+1,dk.setIfInBounds kk ⟨j+1+(i+1),hlt2⟩,by first|rfl|go_num,by first|rfl|go_num,by omega,by omega,Nat.le_refl _,by
         show SWK _ _ _ _ _ _ _;rw[<-GU.out.2];exact Trn.QW SW3.out RR.out.hk RR.out.hblk (by omega) _,CI.out.kF hlt2 hkq,by omega⟩
       |false=>
        rw[hkq,Bool.not_false] at hcg
        go_wp2_with fail
        go_quiet_grown (first|(go_at_fn g;refine Calls.grown_of<|hcg _ _))
        have SW3:Aside (SWK enc k w blk off dk<|grow (wr.drewN nq) osq):=SW2.out.grown nq osq;clear lu lv hcg SW2
        generalize grow (wr.drewN nq) osq=wq at SW3⊢
        go_wp2
        go_roundg (n-(j+1+(i+1+1)))
        case measure=>omega
        case rel=>exact⟨kk,i+1+1,dk,rfl,by first|rfl|go_num,by omega,by omega,Nat.le_refl _,SW3,CI.out.skip hkq,by omega⟩
      ·have hend:j+1+k2=n:=by omega
       have hcl:∀ty,(Builtin.clear_ #[136] ty #[.slice (some ⟨blk,off+kk*k,none⟩) (n-kk)<|cap-kk]).run P wr= .ok (.tuple #[]) (wr.setCells blk (off+kk*k) (Builtin.zeroCells zv.cells<|n-kk).toList):=fun ty=>
        Trn.wv t136 v89 hz1 (SW2.out.holds RR.out.hblk RR.out.hH (by rw[hdk,hd0])) (by rw[hzs,size_flatK,hdk,<-Nat.add_mul];exact Nat.mul_le_mul_right k (by omega)) (by omega)
       have kz1:(kk:Int)<=(n:Int):=by omega
       have hzl:(Builtin.zeroCells zv.cells<|n-kk).toList.length<=(n-kk)*k:=by rw[Trn.uZ,hzs];exact Nat.le_refl _
       generalize (Builtin.zeroCells zv.cells<|n-kk).toList=zl at hcl hzl
       clear v89 hzs hz1
       go_wp2
       go_ret
       have C:=CI.out;rw[hend] at C;exact⟨kk,dk,zl,wr,rfl,C.len<|Nat.le_refl _,SW2.out,hdk,C.low,rfl,hzl⟩
   ·have:kx=n:=by omega
    subst this
    go_wp2
    go_ret
    exact ALL.out wr SW.out HA.out
set_option maxHeartbeats 4000000 in
set_option maxRecDepth 1000000 in
theorem Wr(p:Option Addr)(m:Nat)(hm:m<2)(cap:Nat)(fv:Value)(w:World):Calls prog 146 #[.slice p m cap,fv] w fun e w'=>e= .returned (.slice p m cap)/\w'=w:=by
 go_enter func146,ntmps146
 go_wp2
 go_ret
 exact⟨rfl,rfl⟩
set_option maxHeartbeats 4000000 in
set_option maxRecDepth 1000000 in
theorem Wo(F:P.funcs[333]? =some f333)(mixed:P.follows .mixedOrders=true)(t0:P.underlying 0=prog.underlying 0)(t3:P.underlying 3=some (.int .i64))(a3:∀w,(isAgg 3).run P w= .ok false w)(z3:∀w,(Go.sizeOf 3).run P w= .ok 1 w)(v3:∀w,(zeroValue 3).run P w= .ok (.int .i64 0) w)(t4:P.underlying 4=some .bool)(a4:∀w,(isAgg 4).run P w= .ok false w)(z4:∀w,(Go.sizeOf 4).run P w= .ok 1 w)(t137:P.underlying 137=some (.slice 91))(a137:∀w,(isAgg 137).run P w= .ok false w)(z137:∀w,(Go.sizeOf 137).run P w= .ok 1 w)
 (a91:∀w,(isAgg 91).run P w= .ok true w)(z91:∀w,(Go.sizeOf 91).run P w= .ok k w)(zv:Value)(v91:∀w,(zeroValue 91).run P w= .ok zv w)(hzs:zv.cells.size=k)(hz1:∀v∈zv.cells.toList,v.oneCell'=true)[Inhabited<|Fin n](enc:Fin n->List Value)(hk:∀x,(enc x).length=k)(h1:∀x,∀v∈enc x,v.oneCell'=true)(g:Nat)(cb:Array Value)(kp:Nat->Bool)(k0:kp 0=true)(blk off cap:Nat)(w:World)
 (eg:∀args w,(callFunc g args).run P w= .ok (.enter g args) w)(hH:HoldsK enc k w blk off (Array.ofFn fun i:Fin n=>i))(hblk:blk<w.heap.size)(hcap:n<=cap)(hsz:n<=9223372036854775807)
 (hcmp:∀(m:Nat) (os:Array Obj) (dk:Array (Fin n)) (j:Nat) (hj:j+1<n),Calls P g (#[.agg (enc ⟨j+1,hj⟩).toArray,.agg (enc ⟨j,Nat.lt_of_succ_lt hj⟩).toArray]++cb) (sortWorldK enc k w blk off m dk os) fun e w'=>e= .returned (.bool<| !kp (j+1))/\∃q os',w'=grow ((sortWorldK enc k w blk off m dk os).drewN q) os'):
  Calls P 333 #[.slice (some ⟨blk,off,none⟩) n cap,.func (.func g) #[] cb] w fun e w'=>∃kk dk zs W,e= .returned (.slice (some ⟨blk,off,none⟩) kk cap)/\kk=((List.range n).filter kp).length/\SWK enc k w blk off dk W/\dk.size=n/\(dk.toList.take kk).map (·.val)=(List.range n).filter kp/\w'=W.setCells blk (off+kk*k) zs/\zs.length<=(n-kk)*k:=by
 have kz:∀j,j<1->kp j=true:=fun j hj=>by
  obtain rfl:j=0:=by omega
  exact k0
 have hpos:0<n:=Fin.pos default;have hd0:(Array.ofFn fun i:Fin n=>i).size=n:=Array.size_ofFn;have S0:Aside (SWK enc k w blk off (Array.ofFn fun i:Fin n=>i) w):=SWK.start hH;have RR:Aside (RowK enc k w blk off (Array.ofFn fun i:Fin n=>i)):=⟨hk,h1,hH,hblk⟩;have CM:Aside (∀(m:Nat) (os:Array Obj) (dk:Array (Fin n)) (j:Nat) (hj:j+1<n),Calls P g (#[.agg (enc ⟨j+1,hj⟩).toArray,.agg (enc ⟨j,Nat.lt_of_succ_lt hj⟩).toArray]++cb) (sortWorldK enc k w blk off m dk os) fun e w'=>e= .returned (.bool<| !kp (j+1))/\∃q os',w'=grow ((sortWorldK enc k w blk off m dk os).drewN q) os'):=hcmp;clear hH hk h1 hcmp;have all:∀W,SWK enc k w blk off (Array.ofFn fun i:Fin n=>i) W->(∀j,j<n->kp j=true)->∃kk dk zs W',(Ending.returned<| .slice (some ⟨blk,off,none⟩) n cap)= .returned (.slice (some ⟨blk,off,none⟩) kk cap)/\kk=((List.range n).filter kp).length/\SWK enc k w blk off dk W'/\dk.size=n/\(dk.toList.take kk).map (·.val)=(List.range n).filter kp/\W=W'.setCells blk (off+kk*k) zs/\zs.length<=(n-kk)*k:=fun W hW hall=>by
  have e:(List.range n).filter kp=List.range n:=List.filter_eq_self.2 fun j hj=>hall j<|List.mem_range.1 hj
  refine⟨n,_,[],W,rfl,by rw[e];simp,hW,hd0,?_,rfl,Nat.zero_le _⟩;rw[e,Array.toList_ofFn];apply List.ext_getElem
  ·simp
  ·intro i h1 h2;simp
 have ALL:Aside (∀W,SWK enc k w blk off (Array.ofFn fun i:Fin n=>i) W->(∀j,j<n->kp j=true)->∃kk dk zs W',(Ending.returned<| .slice (some ⟨blk,off,none⟩) n cap)= .returned (.slice (some ⟨blk,off,none⟩) kk cap)/\kk=((List.range n).filter kp).length/\SWK enc k w blk off dk W'/\dk.size=n/\(dk.toList.take kk).map (·.val)=(List.range n).filter kp/\W=W'.setCells blk (off+kk*k) zs/\zs.length<=(n-kk)*k):=all;clear all;by_cases h2:n<2
 ·go_enter F,ntmps333
  go_wp2
  go_ret
  exact ALL.out w S0.out fun j hj=>kz j (by omega)
 ·go_enter F,ntmps333
  go_wp2
  go_loopg [5] n (fun gg s5 wr=>∃kx:Nat,1<=kx/\kx<=n/\n-kx<=gg/\s5= .int .i64 kx/\Aside (SWK enc k w blk off (Array.ofFn fun i:Fin n=>i) wr)/\Aside (∀j,j<kx->kp j=true))
  case atStart=>exact⟨1,Nat.le_refl _,by omega,by omega,by first|rfl|go_num,S0,kz⟩
  case round=>
   clear S0;obtain⟨kx,hk1,hkn,hg,rfl,SW,HA⟩:=hrel;by_cases hlt:kx<n
   ·obtain⟨j,rfl⟩:∃j,kx=j+1:=⟨kx-1,by omega⟩;have jz:(j:Int)+1<(n:Int):=by omega
    have jz1:(j:Int)<(n:Int):=by omega
    have p0:(0:Int)<=(j:Int)+1:=by omega
    have e0:((j:Int)+1).toNat=j+1:=by omega
    have hwp:IntKind.i64.wrap (j:Int)=(j:Int):=by rw[IntKind.wrap_i64];omega
    obtain⟨cx,hcx⟩:∃c,(enc ⟨j+1,hlt⟩).toArray=c:=⟨_,rfl⟩;obtain⟨cy,hcy⟩:∃c,(enc ⟨j,Nat.lt_of_succ_lt hlt⟩).toArray=c:=⟨_,rfl⟩;have lj:∀n' os',Sem.run P (loadCellsFrom ⟨blk,off+(j+1)*k,none⟩ 0 k #[]) (grow (wr.drewN n') os')= .ok cx (grow (wr.drewN n') os'):=fun n' os'=>by
     have:=SW.out.ld RR.out (by rw[hd0]) P (j+1) (by rw[hd0];exact hlt) n' os';rw[this,<-hcx,getElem!_pos _ _ (by rw[hd0];exact hlt)];simp
    have lp:∀n' os',Sem.run P (loadCellsFrom ⟨blk,off+j*k,none⟩ 0 k #[]) (grow (wr.drewN n') os')= .ok cy (grow (wr.drewN n') os'):=fun n' os'=>by
     have:=SW.out.ld RR.out (by rw[hd0]) P j (by rw[hd0];omega) n' os';rw[this,<-hcy,getElem!_pos _ _ (by rw[hd0];omega)];simp
    have hcg:∀n' os',Calls P g (#[.agg cx,.agg cy]++cb) (grow (wr.drewN n') os') fun e w'=>e= .returned (.bool<| !kp (j+1))/\∃q os'',w'=grow ((grow (wr.drewN n') os').drewN q) os'':=fun n' os'=>by
     obtain⟨m,os0,hw⟩:=SW.out.grown n' os';rw[hw,<-hcx,<-hcy];exact CM.out m os0 _ j hlt
    cases hkp:kp (j+1) with
    |true=>
     rw[hkp,Bool.not_true] at hcg
     go_wp2_with fail
     go_quiet_grown (first|(go_at_fn g;refine Calls.grown_of<|hcg _ _))
     go_wp2
     go_roundg (n-(j+1+1))
     case measure=>omega
     case rel=>exact⟨j+1+1,by omega,by omega,Nat.le_refl _,by first|rfl|go_num,SW.out.grown nq osq,fun i hi=>by
      rcases Nat.lt_or_ge i (j+1) with h|h
      ·exact HA.out i h
      ·have:i=j+1:=by omega
       rw[this];exact hkp⟩
    |false=>
     rw[hkp,Bool.not_false] at hcg
     go_wp2_with fail
     go_quiet_grown (first|(go_at_fn g;refine Calls.grown_of<|hcg _ _))
     have SW1:Aside (SWK enc k w blk off (Array.ofFn fun i:Fin n=>i)<|grow (wr.drewN nq) osq):=SW.out.grown nq osq;clear lj lp hcg
     generalize grow (wr.drewN nq) osq=wq at SW1⊢
     go_wp2
     go_loopg [5,7] n (fun gg s5 s7 wr=>∃(kk k2:Nat) (dk:Array (Fin n)),s5= .int .i64 kk/\s7= .int .i64 k2/\1<=k2/\j+1+k2<=n/\n-(j+1+k2)<=gg/\Aside (SWK enc k w blk off dk wr)/\Aside (Trn.Fk n kp (j+1+k2) kk dk)/\kk<j+1+k2)
     case atStart=>exact⟨j+1,1,_,by first|rfl|go_num,rfl,Nat.le_refl _,by omega,by omega,SW1,Trn.Fk.start hlt HA.out hkp,by omega⟩
     case round=>
      clear SW1;obtain⟨kk,k2,dk,rfl,rfl,h21,hle,hg2,SW2,CI,hkk⟩:=hrel;have hdk:dk.size=n:=CI.out.size;by_cases hlt2:j+1+k2<n
      ·obtain⟨i,rfl⟩:∃i,k2=i+1:=⟨k2-1,by omega⟩;have iz:(i:Int)+1<((n-(j+1):Nat):Int):=by omega
       have iz1:(i:Int)<((n-(j+1):Nat):Int):=by omega
       have q0:(0:Int)<=(i:Int)+1:=by omega
       have f0:((i:Int)+1).toNat=i+1:=by omega
       have hwq:IntKind.i64.wrap (i:Int)=(i:Int):=by rw[IntKind.wrap_i64];omega
       have ea:off+(j+1)*k+(i+1)*k=off+(j+1+(i+1))*k:=by rw[Nat.add_assoc,<-Nat.add_mul]
       have eb:off+(j+1)*k+i*k=off+(j+1+i)*k:=by rw[Nat.add_assoc,<-Nat.add_mul]
       have ga:dk[j+1+(i+1)]! =⟨j+1+(i+1),hlt2⟩:=by rw[getElem!_pos dk _ (by omega)];exact CI.out.high _ hlt2 (by omega) _
       have gb:dk[j+1+i]! =⟨j+1+i,Nat.lt_of_succ_lt hlt2⟩:=by rw[getElem!_pos dk _ (by omega)];exact CI.out.high (j+1+i) (Nat.lt_of_succ_lt hlt2) (show j+1+(i+1)-1<=j+1+i by omega) _
       obtain⟨cu,hcu⟩:∃c,enc ⟨j+1+(i+1),hlt2⟩=c:=⟨_,rfl⟩;obtain⟨cv,hcv⟩:∃c,enc ⟨j+1+i,Nat.lt_of_succ_lt hlt2⟩=c:=⟨_,rfl⟩;have lu:∀n' os',Sem.run P (loadCellsFrom ⟨blk,off+(j+1)*k+(i+1)*k,none⟩ 0 k #[]) (grow (wr.drewN n') os')= .ok cu.toArray (grow (wr.drewN n') os'):=fun n' os'=>by
        have:=SW2.out.ld RR.out (by rw[hd0];exact hdk) P (j+1+(i+1)) (by omega) n' os';rw[ea,this,ga,hcu]
       have lv:∀n' os',Sem.run P (loadCellsFrom ⟨blk,off+(j+1)*k+i*k,none⟩ 0 k #[]) (grow (wr.drewN n') os')= .ok cv.toArray (grow (wr.drewN n') os'):=fun n' os'=>by
        have:=SW2.out.ld RR.out (by rw[hd0];exact hdk) P (j+1+i) (by omega) n' os';rw[eb,this,gb,hcv]
       have hcg:∀n' os',Calls P g (#[.agg cu.toArray,.agg cv.toArray]++cb) (grow (wr.drewN n') os') fun e w'=>e= .returned (.bool<| !kp (j+1+(i+1)))/\∃q os'',w'=grow ((grow (wr.drewN n') os').drewN q) os'':=fun n' os'=>by
        obtain⟨m,os0,hw⟩:=SW2.out.grown n' os';rw[hw,<-hcu,<-hcv];exact CM.out m os0 dk (j+1+i) hlt2
       have GU:Aside (dk[j+1+(i+1)]! =⟨j+1+(i+1),hlt2⟩/\enc ⟨j+1+(i+1),hlt2⟩=cu):=⟨ga,hcu⟩;clear ea eb ga gb hcu hcv;cases hkq:kp (j+1+(i+1)) with
       |true=>
        rw[hkq,Bool.not_true] at hcg
        go_wp2_with fail
        go_quiet_grown (first|(go_at_fn g;refine Calls.grown_of<|hcg _ _))
        have SW3:Aside (SWK enc k w blk off dk<|grow (wr.drewN nq) osq):=SW2.out.grown nq osq;have l3:=lu nq osq;clear lu lv hcg SW2
        generalize grow (wr.drewN nq) osq=wq at SW3 l3⊢
        have n3:cu.length=k:=by rw[<-GU.out.2];exact RR.out.hk _
        have s3:Sem.run P (storeCells ⟨blk,off+kk*k,none⟩ cu 0) wq= .ok () (wq.setCells blk (off+kk*k) cu):=by
         rw[<-GU.out.2];exact stores_of_holds P (SW3.out.holds RR.out.hblk RR.out.hH (by rw[hdk,hd0])) (kk*k) _ (by rw[RR.out.hk,size_flatK];exact rowK_bnd dk k kk (by omega))<|RR.out.h1 _
        have kz1:(kk:Int)<(n:Int):=by omega
        go_wp2
        go_roundg (n-(j+1+(i+1+1)))
        case measure=>omega
        case rel=>exact⟨kk+1,i+1+1,dk.setIfInBounds kk ⟨j+1+(i+1),hlt2⟩,by first|rfl|go_num,by first|rfl|go_num,by omega,by omega,Nat.le_refl _,by
         show SWK _ _ _ _ _ _ _;rw[<-GU.out.2];exact Trn.QW SW3.out RR.out.hk RR.out.hblk (by omega) _,CI.out.kF hlt2 hkq,by omega⟩
       |false=>
        rw[hkq,Bool.not_false] at hcg
        go_wp2_with fail
        go_quiet_grown (first|(go_at_fn g;refine Calls.grown_of<|hcg _ _))
        have SW3:Aside (SWK enc k w blk off dk<|grow (wr.drewN nq) osq):=SW2.out.grown nq osq;clear lu lv hcg SW2
        generalize grow (wr.drewN nq) osq=wq at SW3⊢
        go_wp2
        go_roundg (n-(j+1+(i+1+1)))
        case measure=>omega
        case rel=>exact⟨kk,i+1+1,dk,rfl,by first|rfl|go_num,by omega,by omega,Nat.le_refl _,SW3,CI.out.skip hkq,by omega⟩
      ·have hend:j+1+k2=n:=by omega
       have hcl:∀ty,(Builtin.clear_ #[137] ty #[.slice (some ⟨blk,off+kk*k,none⟩) (n-kk)<|cap-kk]).run P wr= .ok (.tuple #[]) (wr.setCells blk (off+kk*k) (Builtin.zeroCells zv.cells<|n-kk).toList):=fun ty=>
        Trn.wv t137 v91 hz1 (SW2.out.holds RR.out.hblk RR.out.hH (by rw[hdk,hd0])) (by rw[hzs,size_flatK,hdk,<-Nat.add_mul];exact Nat.mul_le_mul_right k (by omega)) (by omega)
       have kz1:(kk:Int)<=(n:Int):=by omega
       have hzl:(Builtin.zeroCells zv.cells<|n-kk).toList.length<=(n-kk)*k:=by rw[Trn.uZ,hzs];exact Nat.le_refl _
       generalize (Builtin.zeroCells zv.cells<|n-kk).toList=zl at hcl hzl
       clear v91 hzs hz1
       go_wp2
       go_ret
       have C:=CI.out;rw[hend] at C;exact⟨kk,dk,zl,wr,rfl,C.len<|Nat.le_refl _,SW2.out,hdk,C.low,rfl,hzl⟩
   ·have:kx=n:=by omega
    subst this
    go_wp2
    go_ret
    exact ALL.out wr SW.out HA.out
set_option maxHeartbeats 4000000 in
set_option maxRecDepth 1000000 in
theorem Wq(p:Option Addr)(m:Nat)(hm:m<2)(cap:Nat)(fv:Value)(w:World):Calls prog 333 #[.slice p m cap,fv] w fun e w'=>e= .returned (.slice p m cap)/\w'=w:=by
 go_enter func333,ntmps333
 go_wp2
 go_ret
 exact⟨rfl,rfl⟩
end
end Sk
namespace Trn
section
open Go.Shelf Go.Sort
variable[D:DR]
variable{α:Type}{blk:Nat}
def flags{α:Type}(l:ard α)(bs:ard Bool):ard α:=((l.zip bs).filter (·.2)).map (·.1)
theorem Ou{α:Type}{e:α->α->atg Bool}:∀{l:ard α} {x:α} {r:ard α},adb e x l=some r->∃bs:ard Bool,bs.length=l.length/\(∀j (hj:j<l.length) (h2:j<(x::l).length) (h3:j<bs.length),e l[j] (x::l)[j]=some (!bs[j]))/\r=flags l bs
 |[],x,r,h=>by
  cases h;exact⟨[],rfl,fun j hj=>absurd hj<|Nat.not_lt_zero _,rfl⟩
 |y::l,x,r,h=>by
  obtain⟨b,hb,h⟩:=pH h;obtain⟨r',hr,h⟩:=pH h;obtain⟨bs,h1,h2,h3⟩:=Ou hr;have h:=fj h;refine⟨(!b)::bs,by simp[h1],fun j hj hj2 hj3=>?_,?_⟩
  ·cases j with
   |zero=>simpa using hb
   |succ j=>exact h2 j (by simpa using hj) (by simp at hj⊢;omega) (by simpa using hj3)
  ·rw[<-h,h3];cases b<;>simp[flags]
theorem KB{α:Type}:∀{l:ard α} {bs:ard Bool},bs.length=l.length->((List.range l.length).filter fun j=>bs.getD j true).map (fun j=>l[j]?)=(flags l bs).map some
 |[],[],_=>rfl
 |[],_::_,h=>by simp at h
 |_::_,[],h=>by simp at h
 |x::l,b::bs,h=>by
  have ih:=KB (l:=l) (bs:=bs) (by simpa using h);rw[List.length_cons,List.range_succ_eq_map,List.filter_cons,List.filter_map];have e:(fun j=>(b::bs).getD j true)∘Nat.succ=fun j=>bs.getD j true:=by funext j;simp
  rw[e];have e2:(((List.range l.length).filter fun j=>bs.getD j true).map Nat.succ).map (fun j=>(x::l)[j]?)=(flags l bs).map some:=by
   rw[<-ih,Io];apply List.map_congr_left;intro j _;simp
  cases b
  ·simpa[flags] using e2
  ·simpa[flags] using e2
theorem Ps{l r:ard α}{c:α×α->atg Bool}(h:jZ l c=some r):∃kp:Nat->Bool,kp 0=true/\(∀j (hj:j+1<l.length),c (l[j+1],l[j])=some (!kp (j+1)))/\((List.range l.length).filter kp).map (fun j=>l[j]?)=r.map some:=by
 cases l with
 |nil=>cases h;exact⟨fun _=>true,rfl,fun j hj=>absurd hj<|Nat.not_lt_zero _,rfl⟩
 |cons x l=>
  obtain⟨r',hr,h⟩:=pH h;have h:=fj h;obtain⟨bs,h1,h2,h3⟩:=Ou hr;refine⟨fun j=>(true::bs).getD j true,rfl,fun j hj=>?_,?_⟩
  ·have hj':j<l.length:=by simpa using hj
   have:=h2 j hj' (by simp;omega) (by omega);simp only[List.getElem_cons_succ,List.getD_cons_succ];rw[gy,kb (by omega)];exact this
  ·rw[KB (l:=x::l) (bs:=true::bs) (by simp[h1]),<-h,h3];simp[flags]
theorem JR{W:apT}{o:Nat}{cur:ath apU}{E:aq9}{fr:Nat×Nat}{v:apU}(h:W.heap[blk]? =some (.cells cur E fr)):(W.setCell ⟨blk,o,none⟩ v).heap[blk]? =some (.cells (cur.setIfInBounds o v) E fr):=by
 simp[World.setCell,B8,h]
theorem zF{blk:Nat}{E:aq9}{fr:Nat×Nat}:∀{vs:ard apU} {W:apT} {o:Nat} {cur:ath apU},W.heap[blk]? =some (.cells cur E fr)->(W.setCells blk o vs).heap[blk]? =some (.cells (setMany cur o vs) E fr)
 |[],_,_,_,h=>h
 |v::vs,W,o,cur,h=>zF (vs:=vs)<|JR h
theorem IP{blk:Nat}:∀{vs:ard apU} {W:apT} {o:Nat},zM W (W.setCells blk o vs) (some blk)
 |[],W,o=>⟨⟨rfl,rfl,rfl,bC _,fun _ _ _=>rfl⟩,bC _⟩
 |v::vs,W,o=>by
  have h:=IP (blk:=blk) (vs:=vs) (W:=W.setCell ⟨blk,o,none⟩ v) (o:=o+1);refine⟨⟨h.os,h.tape,h.output,fc (by simp[World.setCell]) h.size,fun k hk hne=>?_⟩,h.drawn⟩;have h1:=h.block k (by simpa[World.setCell] using hk) hne;show(World.setCells _ blk (o+1) vs).heap[k]? =_;rw[h1];exact Below.heap_setCell _ _ _ _ (fun e=>hne (by rw[e]))
theorem Hk{m:Nat}:∀{vs:ard apU} {F:ath apU} {s:Nat},m<=s->(setMany F s vs).toList.take m=F.toList.take m
 |[],_,_,_=>rfl
 |v::vs,F,s,h=>by
  rw[setMany,Hk (vs:=vs) (by omega),L9,List.take_set_of_le h]
theorem N8[Inhabited α]{enc:α->ard apU}{k:Nat}{w:apT}{m:Nat}{dk:ath α}{os:ath Obj}:zM w (sortWorldK enc k w blk 0 m dk os) (some blk):=by
 refine⟨⟨rfl,rfl,rfl,wo,fun i hi hne=>nQ hi (fun e=>hne (by rw[e]))⟩,?_⟩;refine GN.of ?_;show w.drawn<=(sortWorldK _ k w blk 0 m dk os).drawn;unfold sortWorldK Go.Sort.grow Go.Sort.putRowK Go.Sort.putRow Go.Sort.mapBlock Go.Sort.ahead;exact B2 _ _
theorem zM.trans{w w1 w2:apT}{row:atg Nat}(h:zM w w1 row)(k:zM w1 w2 row):zM w w2 row:=
 ⟨⟨k.os.trans h.os,k.tape.trans h.tape,k.output.trans h.output,fc h.size k.size,fun i hi hne=>(k.block i (nD hi h.size) hne).trans<|h.block i hi hne⟩,fc h.drawn k.drawn⟩
end
section
open Go.Shelf Go.Sort
variable[D:DR]
variable{P:Program}{A:Type}{τ:A->Ty}{k:Nat}{c:A×A->Option Bool}{f E:Nat}
theorem Ck(hc:dY P f=true)(hn:∀a,(τ a).n=k)(ha:∀a,(τ a).agg=true)
  (acb:∀(p:atg Addr) (m:Nat) (hm:m<2) (cap:Nat) (fv:apU) (w:apT),Calls P f #[.slice p m cap,fv] w fun e w'=>e= .returned (.slice p m cap)/\w'=w)
  (akG:∀{n:Nat} [Inhabited<|Fin n] (enc:Fin n->ard apU) (hk:∀x,(enc x).length=k) (h1:∀x,∀v∈enc x,v.oneCell'=true) (g:Nat) (cb:ath apU) (kp:Nat->Bool) (k0:kp 0=true) (blk off cap:Nat) (w:apT)
   (eg:∀args w,(callFunc g args).run P w= .ok (.enter g args) w) (hH:HoldsK enc k w blk off (Array.ofFn fun i:Fin n=>i)) (hblk:blk<w.heap.size) (hcap:n<=cap) (hsz:n<=9223372036854775807)
   (hcmp:∀(m:Nat) (os:ath Obj) (dk:ath (Fin n)) (j:Nat) (hj:j+1<n),Calls P g (#[.agg (enc ⟨j+1,hj⟩).toArray,.agg (enc ⟨j,Nat.lt_of_succ_lt hj⟩).toArray]++cb) (sortWorldK enc k w blk off m dk os) fun e w'=>e= .returned (.bool<| !kp (j+1))/\∃q os',w'=Go.Sort.grow ((sortWorldK enc k w blk off m dk os).drewN q) os'),
   Calls P f #[.slice (some ⟨blk,off,none⟩) n cap,.func (.func g) #[] cb] w fun e w'=>∃kk dk zs W,e= .returned (.slice (some ⟨blk,off,none⟩) kk cap)/\kk=((List.range n).filter kp).length/\SWK enc k w blk off dk W/\dk.size=n/\(dk.toList.take kk).map (·.val)=(List.range n).filter kp/\w'=W.setCells blk (off+kk*k) zs/\zs.length<=(n-kk)*k)
  {l r:ard A}(hm:jZ l c=some r):zN P f E k (lT τ l) [Fj P (fun x:A×A=>[τ x.1,τ x.2]) (fun x:Bool=>[aY x]) c] (lT τ r):=by
 obtain⟨kp,hk0,hkp,hkr⟩:=Ps hm;refine⟨hc,fun w H v xs vs sub gl hown gq hH hvs=>?_⟩;obtain⟨fv,rfl,hfv⟩:=sZ hvs;obtain⟨g,cap,oT,rfl,IK,hf⟩:=hfv;have hlen:(lT τ l).length=l.length:=fW ..;rw[hlen] at hown;by_cases hl0:l.length<2
 ·have hr:r=l:=by
   match l,hl0 with
   |[],_=>cases hm;rfl
   |[x],_=>cases hm;rfl
   |a::b::t,h=>simp only[List.length_cons] at h;omega
  subst hr;obtain⟨p,kI,rfl⟩:∃p kI,v= .slice p r.length kI:=by
   rcases hown.2 with⟨hv,h0⟩|⟨g,cap,cur,hv,_⟩
   ·exact⟨_,_,by rw[hv,h0]⟩
   ·exact⟨_,_,hv⟩
  refine(acb p r.length hl0 kI _ w).mono ?_;rintro e w' ⟨rfl,rfl⟩;exact⟨_,rfl,⟨⟨rfl,rfl,rfl,bC _,fun _ _ _=>rfl⟩,bC _⟩,xs,by rw[hlen];exact hown,gq,fun b hb=>hb⟩
 ·have hpos:0<l.length:=by omega
  obtain⟨blk,kI,cur,rfl,hblk,hnc,hcm,hcs,htake⟩:∃blk kI cur,v= .slice (some ⟨blk,0,.none⟩) l.length kI/\w.heap[blk]? =some (.cells cur E (0,0))/\l.length<=kI/\kI<=maxLen/\cur.size=kI*k/\cur.toList.take (l.length*k)=xs:=by
   rcases hown.2 with⟨_,hz⟩|⟨g,cap,cur,hv,_,r⟩
   ·omega
   ·exact⟨g,cap,cur,hv,r⟩
  haveI:Inhabited (Fin l.length):=⟨⟨0,hpos⟩⟩
  obtain⟨FT,R0⟩:=pc hn ha gq;have hB:H blk= .none:=hH blk rfl;have Wb:∀j (hj:j+1<l.length),dY P g=true:=fun j hj=>al.can (D:=DR.strict)<|hf _ _<|hkp j hj
  have main:=akG (fun i:Fin l.length=>chunk k xs i) (fun i=>qd FT i.2) (fun i u hu=>vT gq u<|yG<|tC hu) g cap kp hk0 blk 0 kI w
   (fun args w=>jo (Wb 0 (by omega)) args w) (Ce FT hblk htake) (lt_of_heap hblk) hnc (fc hnc hcm)
   (fun m os dk j hj=>afV (off:=0) hn ha gq sub gl hB IK hf m os dk ⟨j+1,hj⟩ ⟨j,Nat.lt_of_succ_lt hj⟩<|hkp j hj)
  refine main.mono ?_;rintro e w' ⟨kk,dk,zs,W,rfl,hkk,⟨m,os,rfl⟩,hdk,V8,rfl,hzs⟩;have hlr:(dk.toList.take kk).map (fun i=>l[i])=r:=by
   have h1:((dk.toList.take kk).map fun i=>l[i]).map some=r.map some:=by
    rw[<-hkr,<-V8,Io,Io];apply List.map_congr_left;intro i _;simp
   exact(List.map_inj_right<|fun a b h=>fj h).1 h1
  have IJ:kk<=l.length:=by
   rw[hkk];exact fc (List.length_filter_le ..) (by simp)
  have hrk:r.length=kk:=by rw[<-hlr,fW,List.length_take,gi,hdk];omega
  have Sw:(flatK (fun i:Fin l.length=>chunk k xs i) k dk).size=l.length*k:=by rw[size_flatK,hdk]
  have hle:l.length*k<=cur.size:=by rw[hcs];exact mI k hnc
  have hkm:kk*k<=l.length*k:=mI k IJ;have tN:=zF (vs:=zs) (o:=0+kk*k)<|w7 (enc:=fun i:Fin l.length=>chunk k xs i) (k:=k) (m:=m) (dk:=dk) (os:=os) hblk
  have RY:=FG (α:=Fin l.length) (d:=flatK (fun i:Fin l.length=>chunk k xs i) k dk) (cur:=cur) (by rw[Sw];exact hle);rw[Sw] at RY;refine⟨_,rfl,N8.trans IP,(flatK (fun i:Fin l.length=>chunk k xs i) k dk).toList.take<|kk*k,?_,?_,fun b hb=>hb⟩
  ·rw[fW,hrk];refine⟨by rw[List.length_take,gi,Sw];exact fA hkm,.inr ⟨blk,kI,_,rfl,jc _,tN,by omega,hcm,?_,?_⟩⟩
   ·rw[size_setMany,<-hcs];simp[Go.Sort.putCells]
   ·rw[Hk (by omega),<-RY,uM,fA hkm]
  ·refine vi (by rw[List.length_take,gi,Sw,hrk];exact fA hkm) fun i hi=>?_
   have XQ:i<dk.size:=by omega
   have ec:chunk k ((flatK (fun i:Fin l.length=>chunk k xs i) k dk).toList.take<|kk*k) i=chunk k (flatK (fun i:Fin l.length=>chunk k xs i) k dk).toList i:=by
    have hb:i*k+k<=kk*k:=by
     have:=mI k (show i+1<=kk by omega);rwa [om,vw] at this
    unfold chunk;rw[tv,uM,fA (by rw[Nat.le_sub_iff_add_le (by omega)];omega)]
   rw[ec,Gx (fun i=>qd FT i.2) XQ,oq dk i XQ];have e:r[i]=l[dk[i]]:=by
    have:r[i]? =((dk.toList.take kk).map fun i=>l[i])[i]? :=by rw[hlr]
    rw[kb hi,mH,Ao,if_pos (by omega),uR,EI XQ] at this;simpa using this
   rw[e];exact R0 _ dk[i].2
end
section
variable{l:ard Int}{n:Nat}{x:Int}{ρ:Type}{R:ρ->Prop}{y q:Int}{s:Nat}{a:ard Int}{y1 y0 N d r:Int}{α:Type}{m:Nat}{b:ard Int}{K:α->atg ρ}{X Y u0 v0 v1 P UL VL U2:Int}
def Yd{ρ:Type}(R:ρ->Prop)(o:atg ρ):Prop:=∃r,o=some r/\R r
def Yd.mk{x:ρ}(h:R x):Yd R (some x):=⟨x,rfl,h⟩
def Yd.bd{α ρ:Type}{R:ρ->Prop}{e:atg α}{K:α->atg ρ}{x:α}(h:e=some x)(k:Yd R (K x)):Yd R (Trn.bd e K):=by subst h;exact k
def Yd.jQ{S:α->Prop}{e:atg α}(h:Yd S e)(k:∀x,S x->Yd R (K x)):Yd R (Trn.bd e K):=by
 obtain⟨x,rfl,hx⟩:=h;exact k x hx
def Yd.cond{ρ:Type}{R:ρ->Prop}{b:Bool}{x y:atg ρ}(hx:b=true->Yd R x)(hy:b=false->Yd R y):Yd R (cond b x y):=by
 cases b
 ·exact hy rfl
 ·exact hx rfl
def Yd.gC{ρ:Type}{R:ρ->Prop}{b:Bool}{x:atg ρ}(hb:b=true)(hx:Yd R x):Yd R (Trn.gC b x):=by subst hb;exact hx
def Yd.fR{α ρ:Type}{R:ρ->Prop}{g:Bool}{d:α}{e:atg α}{K:α->atg ρ}(h1:g=true->∃x,e=some x/\Yd R (K x))(h2:g=false->Yd R (K d)):Yd R (Trn.fR g d e K):=by
 cases g
 ·exact h2 rfl
 ·obtain⟨x,rfl,h⟩:=h1 rfl;exact h
def Yd.jn{α ρ:Type}{R:ρ->Prop}(I:α->Prop){K:α->atg ρ}{E:(α->atg ρ)->atg ρ}(hK:∀s,I s->Yd R (K s))(hE:∀k,(∀s,I s->Yd R (k s))->Yd R (E k)):Yd R (Trn.jn K E):=hE K hK
def Yd.lp{σ ρ:Type}{R:ρ->Prop}{B:(σ->atg ρ)->σ->atg ρ}(I:σ->Prop)(μ:σ->Nat)(h:∀next s,I s->(∀s',I s'->μ s'<μ s->Yd R (next s'))->Yd R (B next s)):∀(F:Nat) (s:σ),I s->μ s<F->Yd R (Trn.lp F B s)
 |0,s,_,h=>by omega
 |F+1,s,hi,hm=>h _ s hi fun s' hi' hm'=>Yd.lp I μ h F s' hi' (by omega)
def Yd.imp{S:ρ->Prop}{o:atg ρ}(h:Yd R o)(k:∀r,R r->S r):Yd S o:=by
 obtain⟨r,e,hr⟩:=h;exact⟨r,e,k r hr⟩
def aM{n:Int}(h:CU n):aF n=some n:=by
 unfold CU at h;unfold aF A6;rw[bD h.1,bD h.2]
 rfl
def Cb{i:Int}(h0:0<=i)(h1:i<l.length):bm l i=some (l.getD i.toNat 0):=by
 obtain⟨n,rfl⟩:=gk h0;have h:n<l.length:=by omega
 show l[n]? =_;simp[h]
def bQ(h:n<l.length):bm l (n:Int)=some (l.getD n 0):=by
 show l[n]? =_;simp[h]
def HX{b:Nat}{n:Int}{z:α}(h0:0<=n)(h1:b*n<=140737488355328)(hb:1<=b):VI b n z=some (List.replicate n.toNat z):=by
 obtain⟨m,rfl⟩:=gk h0;have h2:(m:Int)<=(b:Int)*m:=by
  have:m*1<=m*b:=EG _ hb;have:m<=b*m:=by rw[oI b m];omega
  exact_mod_cast this
 unfold VI;rw[bD h0,bD (show((m:Int)<=9223372036854775807) by omega),bD h1]
 rfl
def jE{l:ard α}{lo hi:Int}(h0:0<=lo)(h1:lo<=hi)(h2:hi<=l.length):im l lo hi=some ((l.take hi.toNat).drop lo.toNat):=by
 unfold im;rw[bD h0,bD h1,bD h2]
 rfl
def ahk{k:IntKind}(h:0<=y):Hu k x y=some (x.fdiv<|2^(min y.toNat k.bits)):=by
 unfold Hu;rw[cr (by omega)]
 rfl
def ahl{k:IntKind}(h:0<=y):Hv k x y=some (k.wrap<|x*2^(min y.toNat k.bits)):=by
 unfold Hv;rw[cr (by omega)]
 rfl
abbrev BB:Int:=18446744073709551616
def gM(n:Nat):Int:=BB^n
def Dy:gM 0=1:=rfl
def jq(n:Nat):gM (n+1)=BB*gM n:=by unfold gM;rw[Int.pow_succ,Int.mul_comm]
def nA:∀n,0<gM n
 |0=>by rw[Dy];omega
 |n+1=>by rw[jq];have:=nA n;unfold BB;omega
def Lz(m n:Nat):gM (m+n)=gM m*gM n:=by unfold gM;rw[Int.pow_add]
def l6(x:Int)(l:ard Int):aL (x::l)=x+BB*aL l:=rfl
def sk:∀(l m:ard Int),aL (l++m)=aL l+gM l.length*aL m
 |[],m=>by simp[aL,Dy]
 |x::l,m=>by
  rw[LS,l6,l6,sk l m,List.length_cons,jq,bp,eS];omega
def HR:okW []:=by intro x h;cases h
def qR:okW (x::l)↔(0<=x/\x<BB)/\okW l:=by
 unfold okW;simp only[bM,forall_eq_or_imp]
def Nz{m:ard Int}:okW (l++m)↔okW l/\okW m:=by
 unfold okW;constructor
 ·exact fun h=>⟨fun x hx=>h x<|B7 _ hx,fun x hx=>h x<|Ap _ hx⟩
 ·rintro⟨h1,h2⟩ x hx;rcases lN.1 hx with h|h
  ·exact h1 x h
  ·exact h2 x h
def mc(h:okW l)(n:Nat):okW (l.take n):=fun x hx=>h x<|tC hx
def vS(h:okW l)(n:Nat):okW (l.drop n):=fun x hx=>h x<|yG hx
def eX(h:okW l)(n:Nat):0<=l.getD n 0/\l.getD n 0<BB:=by
 by_cases hn:n<l.length
 ·have:l.getD n 0=l[n]:=by simp[gy,hn]
  rw[this];exact h _<|qz hn
 ·have:l.getD n 0=0:=by simp[gy,hn]
  rw[this];unfold BB;omega
def nS(n:Nat):okW (List.replicate n 0):=fun x hx=>by
 rw[(List.mem_replicate.1 hx).2];omega
def me(h:okW l)(n:Nat)(hx:0<=x/\x<BB):okW (l.set n x):=fun y hy=>by
 rcases List.mem_or_eq_of_mem_set hy with h'|h'
 ·exact h y h'
 ·subst h';exact hx
def xQ:∀n,aL (List.replicate n 0)=0
 |0=>rfl
 |n+1=>by rw[List.replicate_succ,l6,xQ n];omega
def dw:∀{l:ard Int},okW l->0<=aL l/\aL l<gM l.length
 |[],_=>by simp[aL,Dy]
 |x::l,h=>by
  rw[qR] at h;obtain⟨h1,h2⟩:=dw h.2;rw[l6,List.length_cons,jq];have:=h.1;unfold BB at*;omega
def sR(h:n<l.length):l.take (n+1)=l.take n++[l.getD n 0]:=by
 rw[LN]
 congr 1
 simp[gy,h]
def o5(h:n<l.length):aL (l.take<|n+1)=aL (l.take n)+gM n*l.getD n 0:=by
 rw[sR h,sk,List.length_take,fA (by omega)];simp[aL]
def o6(l:ard Int)(n:Nat)(h:n<=l.length):aL l=aL (l.take n)+gM n*aL (l.drop n):=by
 conv=>lhs;rw[<-yI n l]
 rw[sk,List.length_take,fA h]
def uo:∀{l:ard Int},okW l->l≠[]->l.getLast?≠some 0->gM (l.length-1)<=aL l
 |[],_,h,_=>absurd rfl h
 |[x],h,_,hl=>by
  rw[qR] at h;have:x≠0:=fun e=>hl (by rw[e];rfl)
  simp[aL,Dy];omega
 |x::y::l,h,_,hl=>by
  rw[qR] at h;have:=uo (l:=y::l) h.2 (by simp) (by simpa using hl);rw[l6,show(x::y::l).length-1=(y::l).length-1+1 from by simp,jq];have:=h.1;unfold BB at*;omega
def YT(h:n<l.length)(x:Int):l.set n x=l.take n++x::l.drop (n+1):=by
 rw[List.set_eq_take_append_cons_drop,if_pos h]
def dr(h:n<=m)(x:Int):(l.set m x).take n=l.take n:=by
 rw[List.take_set_of_le h]
def getD_set_ne(h:n≠m)(x:Int):(l.set m x).getD n 0=l.getD n 0:=by
 simp[gy,List.getElem?_set_ne<|Ne.symm h]
def dv(h:n<l.length)(x:Int):(l.set n x).getD n 0=x:=by
 simp[gy,h]
def Norm(w:ard Int):Prop:=okW w/\w.getLast?≠some 0
def Norm.nil:Norm []:=⟨HR,by simp⟩
def Norm.len{w:ard Int}(h:Norm w)(hv:aL w<gM n):w.length<=n:=by
 by_cases h0:w=[]
 ·subst h0;simp
 ·have h1:=uo h.1 h0 h.2;rcases jI n w.length with h2|h2
  ·have:gM n<=gM (w.length-1):=by
    obtain⟨k,hk⟩:∃k,w.length-1=n+k:=⟨w.length-1-n,by omega⟩;rw[hk,Lz];have a:=nA n;have b:=nA k;have:gM n*1<=gM n*gM k:=jB (by omega) (by omega);omega
   omega
  ·exact h2
def eK{a b:Bool}(h:(a&&b)=true):a=true/\b=true:=by
 rw[bV] at h;exact h
def vU(ha:okW a)(hl:a.length<4611686018427387904):Yd (fun w=>Norm w/\aL w=aL a/\w.length<=a.length) (lL a):=by
 unfold lL;refine Yd.lp (fun s:Int=>0<=s/\s<=a.length/\aL (a.take s.toNat)=aL a) (fun s:Int=>s.toNat) ?_ _ _ ⟨by omega,by omega,by simp⟩ (by simp;omega);rintro next s ⟨h0,h1,h2⟩ hn
 refine Yd.fR (fun hg=>?_)<|fun hg=>?_
 ·have hs:0<s:=bf hg;refine⟨s-1,aM ⟨by omega,by omega⟩,Yd.fR (fun _=>⟨a.getD (s-1).toNat 0,Cb (by omega) (by omega),Yd.cond (fun hc=>?_)<|fun hc=>?_⟩) (fun h=>by rw[hg] at h;cases h)⟩
  ·obtain⟨_,hz⟩:=eK hc;have hz:=bf hz;refine Yd.bd (aM ⟨by omega,by omega⟩) (hn _ ⟨by omega,by omega,?_⟩ (by omega));have e:s.toNat=(s-1).toNat+1:=by omega
   rw[e,o5 (by omega),hz,zw,Ev] at h2;exact h2
  ·refine Yd.bd (jE (by omega) h0 h1) (Yd.mk ⟨⟨mc ha _,?_⟩,h2,by simp;omega⟩);rw[bD hs,pq] at hc;have hz:=bP hc;have e:s.toNat=(s-1).toNat+1:=by omega
   show(a.take s.toNat).getLast?≠some 0;rw[e,sR (by omega)];simpa using hz
 ·have hs: ¬0<s:=bP hg;have hs:s=0:=by omega
  subst hs;refine Yd.fR (fun h=>by rw[hg] at h;cases h) (fun _=>Yd.cond (fun hc=>by simp at hc) (fun _=>Yd.bd (jE (by omega) (by omega) h1) (Yd.mk ⟨by simpa using Norm.nil,by simpa using h2,by simp⟩)))
def Rv(ha:okW a)(hb:okW b)(ZJ:a.length<4398046511104)(ZI:b.length<4398046511104):Yd (fun w=>Norm w/\aL w=aL a+aL b) (pk a b):=by
 unfold pk;refine Yd.jn (fun s:ard Int×ard Int=>okW s.1/\okW s.2/\s.2.length<=s.1.length/\s.1.length<4398046511104/\aL s.1+aL s.2=aL a+aL b) ?_ fun k hk=>Yd.cond (fun hc=>?_)<|fun hc=>?_
 rotate_left
 ·have hc:=bf hc;exact hk (b,a) ⟨hb,ha,by dsimp only;omega,ZI,by dsimp only;omega⟩
 ·have hc:=bP hc;exact hk (a,b) ⟨ha,hb,by dsimp only;omega,ZJ,rfl⟩
 rintro⟨x,y⟩ ⟨hx,hy,hl,hlx,hv⟩;simp only at hx hy hl hlx hv⊢;rw[<-hv];refine Yd.bd (aM ⟨by omega,by omega⟩) (Yd.bd (HX (by omega) (by omega) (by omega)) ?_);refine Yd.lp (fun s:ard Int×Int×Int=>okW s.1/\s.1.length=x.length+1/\(s.2.1=0\/s.2.1=1)/\0<=s.2.2/\s.2.2<=x.length/\aL (s.1.take s.2.2.toNat)+gM s.2.2.toNat*s.2.1=aL (x.take s.2.2.toNat)+aL (y.take s.2.2.toNat))
  (fun s:ard Int×Int×Int=>x.length-s.2.2.toNat) ?_ _ _ ⟨nS _,by simp only[uQ];omega,.inl rfl,by dsimp only;omega,by dsimp only;omega,by simp[aL]⟩ (by dsimp only;omega)
 rintro next ⟨o,c,i⟩ ⟨h1,h2,h3,h4,h5,h6⟩ hn
 simp only at h1 h2 h3 h4 h5 h6 hn⊢;obtain⟨n,rfl⟩:=gk h4;simp only[Int.toNat_natCast,tz] at*;refine Yd.cond (fun hc=>?_)<|fun hc=>?_
 ·have hc:=bf hc;refine Yd.jn (fun v=>v=y.getD n 0) ?_ fun k hk=>Yd.cond (fun hd=>?_)<|fun hd=>?_
  ·rintro v rfl;obtain⟨p1,p2⟩:=eX hx n;obtain⟨q1,q2⟩:=eX hy n;refine Yd.bd (Cb (by omega) (by omega)) ?_;simp only[Int.toNat_natCast]
   generalize hX:x.getD n 0=X at*
   generalize hY:y.getD n 0=Y at*
   have Wd:nC X Y c=some ((X+Y+c)%BB,(X+Y+c)/BB):=by
    unfold nC v8;rw[bD p1,bD p2,bD q1,bD q2];rcases h3 with rfl|rfl<;>rfl
   refine Yd.bd Wd (Yd.bd (Cb (by omega) (by omega)) (Yd.bd (Cb (by omega) (by omega)) (Yd.bd (aM ⟨by omega,by omega⟩) ?_)));have hdm:=yH (X+Y+c) BB;have VZ:0<=(X+Y+c)%BB:=rP _ (by unfold BB;omega);have hr1:(X+Y+c)%BB<BB:=qA _ (by unfold BB;omega);have hq:(X+Y+c)/BB=0\/(X+Y+c)/BB=1:=by unfold BB at*;rcases h3 with rfl|rfl<;>omega
   refine hn _ ⟨me h1 _ ⟨VZ,hr1⟩,by simpa using h2,hq,by dsimp only;omega,by dsimp only;omega,?_⟩ (by dsimp only;omega);have e:(((n:Nat):Int)+1).toNat=n+1:=by omega
   simp only[e,Int.toNat_natCast];rw[o5 (by simpa using by omega),dr<|bC _,dv (by omega),o5 (by omega),hX,jq];have hy':aL (y.take<|n+1)=aL (y.take n)+gM n*Y:=by
    rcases jI n y.length with h|h
    ·rw[o5 h,hY]
    ·have:Y=0:=by rw[<-hY];simp[gy,h]
     rw[this,eJ (by omega),eJ h];omega
   rw[hy'];have key:gM n*((X+Y+c)%BB)+BB*gM n*((X+Y+c)/BB)=gM n*(X+Y+c):=by
    conv=>rhs;rw[<-hdm]
    rw[bp,Int.mul_comm BB<|gM n,eS]
   have k2:gM n*(X+Y+c)=gM n*X+gM n*Y+gM n*c:=by rw[bp,bp]
   omega
  ·have hd:=bf hd;exact Yd.bd (Cb (by omega) hd) (hk _ (by simp))
  ·have hd:=bP hd;exact hk _ (by simp[gy];rw[L1 (by omega)];rfl)
 ·have hc:=bP hc;have KA:n=x.length:=by omega
  subst KA;refine Yd.bd (Cb (by omega) (by omega)) (Yd.bd (Cb (by omega) (by omega)) ?_);have zG:0<=c/\c<BB:=by unfold BB;omega
  refine Yd.jQ (vU (me h1 x.length zG) (by simp;omega)) fun w ⟨w1,w2,_⟩=>Yd.mk ⟨w1,?_⟩
  have e1:=o6 (o.set x.length c) x.length (by rw[ou];omega);have e2:(o.set x.length c).drop x.length=[c]:=by
   rw[YT (by omega),yE,wK (by rw[List.length_take];omega)];have:(o.drop<|x.length+1)=[]:=wK (by omega);rw[this,List.length_take,fA (by omega)];simp
  rw[e2,dr<|bC _] at e1;rw[eJ (l:=x) (by omega),eJ (l:=y) (by omega)] at h6;rw[show aL [c]=c from by simp[aL]] at e1;omega
def WQ(h:n<l.length):aL l=aL (l.take n)+gM n*(l.getD n 0+BB*aL (l.drop<|n+1)):=by
 rw[o6 l n (by omega)]
 congr 2
 rw[BQ h,l6]
 congr 1
 simp[gy,h]
def HJ(h:m<=n):gM m<=gM n:=by
 obtain⟨k,rfl⟩:∃k,n=m+k:=⟨n-m,by omega⟩;rw[Lz];have a:=nA m;have b:=nA k;have:gM m*1<=gM m*gM k:=jB (by omega) (by omega);omega
def xP(ha:okW a)(hb:Norm b)(h:a.length<b.length):aL a<aL b:=by
 have h1:=(dw ha).2;have h2:=uo hb.1 (by intro e;subst e;simp at h) hb.2;have h3:=HJ (show a.length<=b.length-1 by omega);omega
def AX(ha:Norm a)(hb:Norm b)(ZJ:a.length<4398046511104)(ZI:b.length<4398046511104):
  Yd (fun r=>(r= -1/\aL a<aL b)\/(r=0/\aL a=aL b)\/(r=1/\aL b<aL a)) (lM a b):=by
 unfold lM;refine Yd.cond (fun hc=>Yd.cond (fun hd=>?_)<|fun hd=>?_)<|fun hc=>?_
 ·have hd:=bf hd;exact Yd.mk (.inl ⟨rfl,xP ha.1 hb (by omega)⟩)
 ·have hd:=bP hd;rw[gY,kE] at hc;exact Yd.mk (.inr (.inr ⟨rfl,xP hb.1 ha (by omega)⟩))
 ·rw[LW,jJ] at hc;have hl:a.length=b.length:=by omega
  refine Yd.bd (aM ⟨by omega,by omega⟩) ?_;refine Yd.lp (fun s:Int=> -1<=s/\s<a.length/\a.drop (s+1).toNat=b.drop (s+1).toNat) (fun s:Int=>(s+1).toNat) ?_ _ _ ⟨by omega,by omega,?_⟩ (by omega)
  ·rintro next s ⟨h0,h1,h2⟩ hn
   refine Yd.cond (fun hp=>?_)<|fun hp=>?_
   ·have hp:=bf hp;obtain⟨n,rfl⟩:=gk hp;have en:(((n:Nat):Int)+1).toNat=n+1:=by omega
    rw[en] at h2;refine Yd.bd (bQ (by omega)) (Yd.bd (bQ (by omega)) ?_);have eA:=WQ (l:=a) (n:=n) (by omega);have eB:=WQ (l:=b) (n:=n) (by omega);rw[h2] at eA;obtain⟨tA0,tA⟩:=dw<|mc ha.1 n
    obtain⟨tB0,tB⟩:=dw<|mc hb.1 n
    rw[List.length_take,fA (by omega)] at tA tB;have hpw:=nA n;have gA:bm a (n:Int)=some (a.getD n 0):=bQ (by omega);have gB:bm b (n:Int)=some (b.getD n 0):=bQ (by omega);have dA:a.drop n=a.getD n 0::a.drop (n+1):=by
     rw[BQ (show n<a.length by omega)]
     congr 1
     simp[gy,show n<a.length by omega]
    have dB:b.drop n=b.getD n 0::b.drop (n+1):=by
     rw[BQ (show n<b.length by omega)]
     congr 1
     simp[gy,show n<b.length by omega]
    generalize a.getD n 0=X at*
    generalize b.getD n 0=Y at*
    have eA':aL a=aL (a.take n)+gM n*X+gM n*(BB*aL (b.drop<|n+1)):=by rw[eA,bp];omega
    have eB':aL b=aL (b.take n)+gM n*Y+gM n*(BB*aL (b.drop<|n+1)):=by rw[eB,bp];omega
    refine Yd.cond (fun hx=>?_)<|fun hx=>?_
    ·rw[gY,kE] at hx;refine Yd.bd gA<|Yd.bd gB<|Yd.cond (fun hlt=>?_)<|fun hlt=>?_
     ·have hlt:=bf hlt;have:gM n*(X+1)<=gM n*Y:=jB (by omega) (by omega);rw[bp,po] at this;exact Yd.mk (.inl ⟨rfl,by omega⟩)
     ·have hlt:=bP hlt;have:gM n*(Y+1)<=gM n*X:=jB (by omega) (by omega);rw[bp,po] at this;exact Yd.mk (.inr (.inr ⟨rfl,by omega⟩))
    ·rw[LW,jJ] at hx;refine Yd.bd (aM ⟨by omega,by omega⟩) (hn _ ⟨by omega,by omega,?_⟩ (by omega));have:(((n:Nat):Int)-1+1).toNat=n:=by omega
     rw[this,dA,dB,hx,h2]
   ·have hp:=bP hp;have:s= -1:=by omega
    subst this;exact Yd.mk (.inr (.inl ⟨rfl,by simpa using congrArg aL h2⟩))
  ·have:((a.length:Int)-1+1).toNat=a.length:=by omega
   rw[this,xC,hl,xC]
def QX{c:Int}(hx:0<=X/\X<BB)(hy:0<=Y/\Y<BB)(hc:c=0\/c=1):∃r d:Int,zu X Y c=some (r,d)/\0<=r/\r<BB/\(d=0\/d=1)/\X-Y-c=r-BB*d:=by
 have h:zu X Y c=some ((X-Y-c)%Hg,bif decide (X<Y+c) then 1 else 0):=by
  unfold zu v8;rw[bD hx.1,bD hx.2,bD hy.1,bD hy.2];rcases hc with rfl|rfl<;>rfl
 refine⟨_,_,h,rP _ (by unfold Hg;omega),qA _ (by unfold Hg;omega),?_,?_⟩
 ·cases decide (X<Y+c)<;>simp
 ·unfold Hg BB at*;by_cases h:X<Y+c
  ·rw[bD h];simp only[fT];omega
  ·rw[cr h];simp only[fU];omega
def EX{c:Int}(hx:0<=X/\X<BB)(hy:0<=Y/\Y<BB)(hc:c=0\/c=1):∃r d:Int,nC X Y c=some (r,d)/\0<=r/\r<BB/\(d=0\/d=1)/\X+Y+c=r+BB*d:=by
 have h:nC X Y c=some ((X+Y+c)%Hg,(X+Y+c)/Hg):=by
  unfold nC v8;rw[bD hx.1,bD hx.2,bD hy.1,bD hy.2];rcases hc with rfl|rfl<;>rfl
 refine⟨_,_,h,rP _ (by unfold Hg;omega),qA _ (by unfold Hg;omega),?_,?_⟩
 ·unfold Hg BB at*;omega
 ·have:=yH (X+Y+c) Hg;unfold Hg BB at*;omega
def LD(hx:0<=X/\X<BB)(hy:0<=Y/\Y<BB):∃hi lo:Int,xv X Y=some (hi,lo)/\0<=hi/\hi<=BB-2/\0<=lo/\lo<BB/\X*Y=lo+BB*hi:=by
 have h:xv X Y=some (X*Y/Hg,X*Y%Hg):=by
  unfold xv v8;rw[bD hx.1,bD hx.2,bD hy.1,bD hy.2]
  rfl
 have h1:=yH (X*Y) Hg;have h2:0<=X*Y:=qx hx.1 hy.1;have h3:X*Y<=(BB-1)*(BB-1):=vz (by omega) (by omega) hy.1 (by unfold BB;omega);have h4:0<=X*Y%Hg:=rP _ (by unfold Hg;omega);have h5:X*Y%Hg<Hg:=qA _ (by unfold Hg;omega);refine⟨_,_,h,?_,?_,h4,h5,?_⟩
 ·exact qy h2 (by unfold Hg;omega)
 ·generalize X*Y/Hg=q at*
  generalize X*Y%Hg=r at*
  generalize X*Y=p at*
  unfold Hg BB at*;omega
 ·unfold Hg BB at*;omega
def zH(h:l.length<=n):l.getD n 0=0:=by simp[gy,h]
def bj(l:ard Int)(n:Nat):aL (l.take<|n+1)=aL (l.take n)+gM n*l.getD n 0:=by
 rcases jI n l.length with h|h
 ·exact o5 h
 ·rw[zH h,eJ (by omega),eJ h];omega
def HW(ha:okW a)(hb:okW b)(hl:b.length<=a.length)(ZJ:a.length<4398046511104)(hv:aL b<=aL a):Yd (fun w=>Norm w/\aL w=aL a-aL b) (pj a b):=by
 unfold pj;refine Yd.bd (HX (by omega) (by omega) (by omega)) ?_;refine Yd.lp (fun s:ard Int×Int×Int=>okW s.1/\s.1.length=a.length/\(s.2.1=0\/s.2.1=1)/\0<=s.2.2/\s.2.2<=a.length/\aL (s.1.take s.2.2.toNat)=aL (a.take s.2.2.toNat)-aL (b.take s.2.2.toNat)+gM s.2.2.toNat*s.2.1)
  (fun s:ard Int×Int×Int=>a.length-s.2.2.toNat) ?_ _ _ ⟨nS _,by simp only[uQ];omega,.inl rfl,by dsimp only;omega,by dsimp only;omega,by simp[aL]⟩ (by dsimp only;omega)
 rintro next ⟨o,c,i⟩ ⟨h1,h2,h3,h4,h5,h6⟩ hn
 simp only at h1 h2 h3 h4 h5 h6 hn⊢;obtain⟨n,rfl⟩:=gk h4;simp only[Int.toNat_natCast,tz] at*;refine Yd.cond (fun hc=>?_)<|fun hc=>?_
 ·have hc:=bf hc;refine Yd.jn (fun v=>v=b.getD n 0) ?_ fun k hk=>Yd.cond (fun hd=>?_)<|fun hd=>?_
  ·rintro v rfl;obtain⟨r,d,e1,e2,e3,e4,e5⟩:=QX (eX ha n) (eX hb n) h3;refine Yd.bd (bQ (by omega)) (Yd.bd e1 (Yd.bd (bQ (by omega)) (Yd.bd (bQ (by omega)) (Yd.bd (aM ⟨by omega,by omega⟩) ?_))));refine hn _ ⟨me h1 _ ⟨e2,e3⟩,by simpa using h2,e4,by dsimp only;omega,by dsimp only;omega,?_⟩ (by dsimp only;omega);have e:(((n:Nat):Int)+1).toNat=n+1:=by omega
   simp only[e,Int.toNat_natCast];rw[bj,dr<|bC _,dv (by omega),bj a,bj b,jq]
   generalize a.getD n 0=X at*
   generalize b.getD n 0=Y at*
   have key:gM n*(X-Y-c)=gM n*r-BB*gM n*d:=by rw[e5,lX,<-eS,Int.mul_comm (gM n) BB]
   have k2:gM n*(X-Y-c)=gM n*X-gM n*Y-gM n*c:=by rw[lX,lX]
   omega
  ·have hd:=bf hd;exact Yd.bd (bQ (by omega))<|hk _ rfl
  ·have hd:=bP hd;exact hk _ (by rw[zH (by omega)])
 ·have hc:=bP hc;have KA:n=a.length:=by omega
  subst KA;refine Yd.jQ (vU h1 (by omega)) fun w ⟨w1,w2,_⟩=>Yd.mk ⟨w1,?_⟩
  rw[w2];rw[eJ (l:=o) (by omega),eJ (l:=a) (by omega),eJ (l:=b) (by omega)] at h6;have ji:=(dw h1).2;rw[h2] at ji;have hp:=nA a.length;rcases h3 with rfl|rfl
  ·omega
  ·omega
def MU(h:aL (l.drop n)=0)(hk:okW l)(hm:n<=m):l.getD m 0=0:=by
 have key:∀(l:ard Int) (j:Nat),okW l->aL l=0->l.getD j 0=0:=by
  intro l
  induction l with
  |nil=>intro j _ _;simp
  |cons x l ih=>
   intro j hk hv;rw[qR] at hk;rw[l6] at hv;have h1:=(dw hk.2).1;have hx:=hk.1;unfold BB at*;cases j with
   |zero=>simp;omega
   |succ j=>simpa using ih j hk.2 (by omega)
 have:=key (l.drop n) (m-n) (vS hk n) h;simpa[gy,yF,show n+(m-n)=m by omega] using this
def Ru(ha:okW a)(hb:okW b)(ZJ:a.length<2199023255552)(ZI:b.length<2199023255552):Yd (fun w=>Norm w/\aL w=aL a*aL b) (tm a b):=by
 unfold tm;refine Yd.bd (aM ⟨by omega,by omega⟩) (Yd.bd (HX (by omega) (by omega) (by omega)) ?_);refine Yd.lp (fun s:ard Int×Int=>okW s.1/\s.1.length=a.length+b.length/\0<=s.2/\s.2<=a.length/\aL (s.1.take<|s.2.toNat+b.length)=aL (a.take s.2.toNat)*aL b)
  (fun s:ard Int×Int=>a.length-s.2.toNat) ?_ _ _ ⟨nS _,by simp only[uQ];omega,by dsimp only;omega,by dsimp only;omega,?_⟩ (by dsimp only;omega)
 rotate_left
 ·dsimp only;rw[Iz,xQ];simp[aL]
 rintro next ⟨o,i⟩ ⟨h1,h2,h3,h4,h5⟩ hn
 simp only at h1 h2 h3 h4 h5 hn⊢;obtain⟨n,rfl⟩:=gk h3;simp only[Int.toNat_natCast,tz] at*;refine Yd.cond (fun hc=>?_)<|fun hc=>?_
 ·have hc:=bf hc;refine Yd.bd (bQ (by omega)) ?_;refine Yd.lp (fun s:ard Int×Int×Int=>okW s.1/\s.1.length=a.length+b.length/\(0<=s.2.1/\s.2.1<BB)/\0<=s.2.2/\s.2.2<=b.length/\s.1.drop (n+s.2.2.toNat)=o.drop (n+s.2.2.toNat)/\
    aL (s.1.take<|n+s.2.2.toNat)+gM (n+s.2.2.toNat)*s.2.1=aL (o.take<|n+s.2.2.toNat)+gM n*(a.getD n 0*aL (b.take s.2.2.toNat)))
   (fun s:ard Int×Int×Int=>b.length-s.2.2.toNat) ?_ _ _ ⟨h1,h2,⟨by dsimp only;omega,by dsimp only;unfold BB;omega⟩,by dsimp only;omega,by dsimp only;omega,rfl,by simp[aL]⟩ (by dsimp only;omega)
  rintro aby ⟨p,c,j⟩ ⟨g1,g2,g3,g4,g5,g6,g7⟩ Pm;simp only at g1 g2 g3 g4 g5 g6 g7 Pm⊢;obtain⟨m,rfl⟩:=gk g4;simp only[Int.toNat_natCast,tz] at*;have eo:p.getD (n+m) 0=o.getD (n+m) 0:=by
   have:=congrArg (fun l=>l.getD 0 0) g6;simpa[gy,yF] using this
  refine Yd.cond (fun hd=>?_)<|fun hd=>?_
  ·have hd:=bf hd;obtain⟨hi,lo,m1,m2,m3,m4,m5,m6⟩:=LD (eX ha n)<|eX hb m
   obtain⟨r1,d1,a1,a2,a3,a4,a5⟩:=EX (X:=lo) (Y:=p.getD (n+m) 0) (c:=0) ⟨m4,m5⟩ (eX g1 _)<| .inl rfl
   obtain⟨r2,d2,b1,b2,b3,b4,b5⟩:=EX (X:=r1) (Y:=c) (c:=0) ⟨a2,a3⟩ g3<| .inl rfl
   have enm:((n:Nat):Int)+((m:Nat):Int)=((n+m:Nat):Int):=by omega
   rw[enm];refine Yd.bd (bQ (by omega)) (Yd.bd m1 (Yd.bd (aM ⟨by omega,by omega⟩) (Yd.bd (bQ (by omega)) (Yd.bd (bQ (by omega)) (Yd.bd a1 (Yd.bd b1 (Yd.bd (aM ⟨by omega,by omega⟩) (Yd.bd (bQ (by omega)) (Yd.bd (bQ (by omega)) (Yd.bd (aM ⟨by omega,by omega⟩) ?_))))))))));obtain⟨xa,xb⟩:=eX ha n;obtain⟨ya,yb⟩:=eX hb m;obtain⟨oa,ob⟩:=eX g1<|n+m
   have wN:a.getD n 0*b.getD m 0<=(BB-1)*(BB-1):=vz (by omega) (by omega) ya (by unfold BB;omega);have hD:BB*(hi+d1+d2)=a.getD n 0*b.getD m 0+p.getD (n+m) 0+c-r2:=by unfold BB at*;omega
   have hlt:hi+d1+d2<BB:=by
    generalize a.getD n 0*b.getD m 0=q at*
    unfold BB at*;omega
   have hw:wr .u64 (wr .u64 (hi+d1)+d2)=hi+d1+d2:=by
    have e1:wr .u64 (hi+d1)=hi+d1:=wrap_u64 ⟨by omega,by unfold BB at*;omega⟩;rw[e1];exact wrap_u64 ⟨by omega,by unfold BB at*;omega⟩
   dsimp only;rw[hw];refine Pm _ ⟨me g1 _ ⟨b2,b3⟩,by simpa using g2,⟨by dsimp only;omega,hlt⟩,by dsimp only;omega,by dsimp only;omega,?_,?_⟩ (by dsimp only;omega)
   ·have e:(((m:Nat):Int)+1).toNat=m+1:=by omega
    simp only[e,Int.toNat_natCast];rw[LY (by omega),<-tu];have:=congrArg (List.drop 1) g6;rwa [iF,iF] at this
   ·have e:(((m:Nat):Int)+1).toNat=m+1:=by omega
    simp only[e,Int.toNat_natCast];rw[<-tu,bj,dr<|bC _,dv (by omega),bj o,bj b,<-eo,jq];have k1:gM n*(a.getD n 0*(aL (b.take m)+gM m*b.getD m 0))=gM n*(a.getD n 0*aL (b.take m))+gM (n+m)*(a.getD n 0*b.getD m 0):=by
     rw[bp,bp,Lz,iu (a.getD n 0)<|gM m,eS]
    have k2:gM (n+m)*r2+BB*gM (n+m)*(hi+d1+d2)=gM (n+m)*(a.getD n 0*b.getD m 0)+gM (n+m)*p.getD (n+m) 0+gM (n+m)*c:=by
     rw[Int.mul_comm BB,eS,<-bp,<-bp,<-bp]
     congr 1;omega
    rw[k1];omega
  ·have hd:=bP hd;have hm':m=b.length:=by omega
   subst hm';have enm:((n:Nat):Int)+((b.length:Nat):Int)=((n+b.length:Nat):Int):=by omega
   rw[enm];refine Yd.bd (aM ⟨by omega,by omega⟩) (Yd.bd (bQ (by omega)) (Yd.bd (bQ (by omega)) (Yd.bd (aM ⟨by omega,by omega⟩) ?_)));refine hn _ ⟨me g1 _ g3,by simpa using g2,by dsimp only;omega,by dsimp only;omega,?_⟩ (by dsimp only;omega);have e:(((n:Nat):Int)+1).toNat=n+1:=by omega
   simp only[e,Int.toNat_natCast];rw[show n+1+b.length=(n+b.length)+1 from by omega,bj,dr<|bC _,dv (by omega),bj a,kD];rw[eJ (l:=b) (by omega),h5] at g7;rw[g7,eS]
 ·have hc:=bP hc;have KA:n=a.length:=by omega
  subst KA;refine Yd.jQ (vU h1 (by omega)) fun w ⟨w1,w2,_⟩=>Yd.mk ⟨w1,?_⟩
  rw[w2];rw[eJ (l:=o) (by omega),eJ (l:=a) (by omega)] at h5;exact h5
def wrW(n:Int):IntKind.wrap .u64 n=n%BB:=by
 unfold IntKind.wrap
 rfl
def OT{n:Int}(h:0<=n/\n<BB):IntKind.wrap .u64 n=n:=by rw[wrW,B3 h.1 h.2]
def Yg(hx:0<=x)(hy:0<=y)(hs:y<2^s)(hd:x%2^s=0)(hw:x+y<BB):mN .or .u64 x y=x+y:=by
 obtain⟨a,rfl⟩:=gk hx;obtain⟨b,rfl⟩:=gk hy;have oV:b<2^s:=by exact_mod_cast hs
 have hd':a%2^s=0:=by exact_mod_cast hd
 have ho:a|||b=a+b:=by
  have e:a=2^s*(a/2^s):=by have:=Nat.div_add_mod a (2^s);omega
  rw[e,<-Nat.two_pow_add_eq_or_of_lt oV]
 have hb:a+b<2^64:=by unfold BB at hw;omega
 unfold mN;show IntKind.wrap .u64 ((BitVec.ofInt 64 a|||BitVec.ofInt 64 b).toNat:Int)=_;have e1:BitVec.ofInt 64 (a:Int)=BitVec.ofNat 64 a:=L0 ..;have e2:BitVec.ofInt 64 (b:Int)=BitVec.ofNat 64 b:=L0 ..;rw[e1,e2,BitVec.toNat_or,LV,LV,zC (by omega),zC (by omega),ho];exact OT ⟨by omega,by omega⟩
def UD(hx:0<=x/\x<BB):mN .and .u64 x 4294967295=x%4294967296:=by
 obtain⟨a,rfl⟩:=gk hx.1;have hb:a<2^64:=by have:=hx.2;unfold BB at this;omega
 unfold mN;show IntKind.wrap .u64 ((BitVec.ofInt 64 a&&&BitVec.ofInt 64 ((4294967295:Nat):Int)).toNat:Int)=_;have e1:BitVec.ofInt 64 (a:Int)=BitVec.ofNat 64 a:=L0 ..;have e2:BitVec.ofInt 64 ((4294967295:Nat):Int)=BitVec.ofNat 64 4294967295:=L0 ..;rw[e1,e2,BitVec.toNat_and,LV,LV,zC hb,zC (by omega),show 4294967295=2^32-1 from rfl,Nat.and_two_pow_sub_one_eq_mod];have:a%2^32<2^32:=tF _ (by omega);rw[OT ⟨by omega,by unfold BB;omega⟩];omega
def aex(hs:s<=64):Hu .u64 x (s:Int)=some (x/2^s):=by
 rw[ahk (by omega)]
 congr 1
 rw[Int.toNat_natCast,fA<|show s<=IntKind.bits .u64 from hs];exact ID _ (fH (Int.pow_pos (by omega)))
def aey(hs:s<=64):Hv .u64 x (s:Int)=some (x*2^s%BB):=by
 rw[ahl (by omega)]
 congr 1
 rw[Int.toNat_natCast,fA<|show s<=IntKind.bits .u64 from hs,wrW]
def qM(h:s<=64):(2:Int)^s*2^(64-s)=BB:=by
 rw[<-Int.pow_add,show s+(64-s)=64 from by omega];rfl
def two_pos(s:Nat):(0:Int)<2^s:=Int.pow_pos (by omega)
def Ki(hs:s<=64)(hx:0<=x/\x<BB):
  ∃lo hi:Int,Hv .u64 x (s:Int)=some lo/\Hu .u64 x ((64:Int)-(s:Int))=some hi/\0<=lo/\lo<BB/\0<=hi/\hi<2^s/\lo%2^s=0/\x*2^s=lo+BB*hi:=by
 have e64:((64:Int)-(s:Int))=((64-s:Nat):Int):=by omega
 have h2:=qM hs;have p1:=two_pos s;have p2:=two_pos<|64-s
 have ab4:x*2^s=(x%2^(64-s))*2^s+BB*(x/2^(64-s)):=by
  conv=>lhs;rw[<-yH x (2^(64-s))]
  rw[kD,<-h2,LU,Int.mul_comm (2^(64-s))<|2^s]
 have r0:=rP x (show(2:Int)^(64-s)≠0 by omega);have r1:=qA x p2;have hlt:(x%2^(64-s))*2^s<BB:=by
  rw[<-h2,Int.mul_comm];exact Int.mul_lt_mul_of_pos_left r1 p1
 have Ui:0<=(x%2^(64-s))*2^s:=qx r0<|fH p1
 refine⟨(x%2^(64-s))*2^s,x/2^(64-s),?_,?_,Ui,hlt,qy hx.1<|fH p2,?_,Int.mul_emod_left _ _,ab4⟩
 ·rw[aey hs,ab4,Int.add_mul_emod_self_left,B3 Ui hlt]
 ·rw[e64,aex (by omega)]
 ·refine IB p2 ?_;rw[h2];exact hx.2
structure HS(y1 y0 N d q r:Int):Prop where
 q0:0<=q
 q1:q<=4294967297
 e:q*y1+r=N
 r0:0<=r
 r1:r<4294967296
 up:N*4294967296+d<(q+1)*(y1*4294967296+y0)
structure HQ(y1 y0 N d q:Int):Prop where
 q0:0<=q
 q1:q<4294967296
 lo:q*(y1*4294967296+y0)<=N*4294967296+d
 up:N*4294967296+d<(q+1)*(y1*4294967296+y0)
structure HP(y1 y0 N d:Int):Prop where
 a0:2147483648<=y1
 a1:y1<4294967296
 b0:0<=y0
 b1:y0<4294967296
 n0:0<=N
 n1:N<y1*4294967296+y0
 d0:0<=d
 d1:d<4294967296
def XL(p:HP y1 y0 N d):HS y1 y0 N d (N/y1) (N-N/y1*y1):=by
 obtain⟨a0,a1,b0,b1,n0,n1,d0,d1⟩:=p;have h1:=yH N y1;have h2:=rP N (show y1≠0 by omega);have h3:=qA N (show 0<y1 by omega);have h4:0<=N/y1:=qy n0 (by omega)
 generalize N/y1=q at*
 generalize N%y1=r at*
 rw[Int.mul_comm y1 q] at h1;refine⟨h4,?_,by omega,by omega,by omega,?_⟩
 ·have:q<=4294967297\/4294967298<=q:=by omega
  rcases this with h|h
  ·exact h
  ·have:4294967298*y1<=q*y1:=tE h (by omega);omega
 ·have hq:0<=q*y0:=qx h4 b0;rw[kD,bp,<-eS];omega
def agz(p:HP y1 y0 N d)(h:HS y1 y0 N d q r)(hc: ¬4294967296<=q)(hd: ¬4294967296*r+d<q*y0):HQ y1 y0 N d q:=by
 obtain⟨a0,a1,b0,b1,n0,n1,d0,d1⟩:=p;obtain⟨q0,q1,e,r0,r1,up⟩:=h;refine⟨q0,by omega,?_,up⟩;rw[bp,<-eS];omega
def XJ(p:HP y1 y0 N d)(h:HS y1 y0 N d q r)(hc:4294967296<=q\/4294967296*r+d<q*y0):1<=q/\N*4294967296+d<(q-1+1)*(y1*4294967296+y0):=by
 obtain⟨a0,a1,b0,b1,n0,n1,d0,d1⟩:=p;obtain⟨q0,q1,e,r0,r1,up⟩:=h;have e1:q-1+1=q:=by omega
 rw[e1,bp,<-eS];rcases hc with hc|hc
 ·refine⟨by omega,?_⟩;have h1:4294967296*y1<=q*y1:=tE hc (by omega);have h2:4294967296*y0<=q*y0:=tE hc (by omega);omega
 ·refine⟨?_,by omega⟩;have:1<=q\/q=0:=by omega
  rcases this with h|h
  ·exact h
  ·subst h;omega
def Ua(p:HP y1 y0 N d)(h:HS y1 y0 N d q r)(hc:4294967296<=q\/4294967296*r+d<q*y0)(hb:4294967296<=r+y1):HQ y1 y0 N d (q-1):=by
 obtain⟨u1,u2⟩:=XJ p h hc;obtain⟨a0,a1,b0,b1,n0,n1,d0,d1⟩:=p;obtain⟨q0,q1,e,r0,r1,up⟩:=h;have hy:(q-1)*y0<=4294967296*y0:=tE (by omega) b0;have e2:(q-1)*y1=q*y1-y1:=by rw[Int.sub_mul,Int.one_mul]
 have lo:(q-1)*(y1*4294967296+y0)<=N*4294967296+d:=by
  rw[bp,<-eS,e2];omega
 refine⟨by omega,?_,lo,u2⟩;have:q-1<4294967296\/4294967296<=q-1:=by omega
 rcases this with h|h
 ·exact h
 ·have:4294967296*(y1*4294967296+y0)<=(q-1)*(y1*4294967296+y0):=tE h (by omega);omega
def XK(p:HP y1 y0 N d)(h:HS y1 y0 N d q r)(hc:4294967296<=q\/4294967296*r+d<q*y0)(hb:r+y1<4294967296):HS y1 y0 N d (q-1) (r+y1):=by
 obtain⟨u1,u2⟩:=XJ p h hc;obtain⟨a0,a1,b0,b1,n0,n1,d0,d1⟩:=p;obtain⟨q0,q1,e,r0,r1,up⟩:=h;have e2:(q-1)*y1=q*y1-y1:=by rw[Int.sub_mul,Int.one_mul]
 exact⟨by omega,by omega,by omega,by omega,by omega,u2⟩
def XM(p:HP y1 y0 N d)(h:HS y1 y0 N d q r):
  ((decide<|4294967296<=q)||(decide<|(IntKind.wrap .u64<|(IntKind.wrap .u64<|4294967296*r)+d)<(IntKind.wrap .u64<|q*y0)))=decide (4294967296<=q\/4294967296*r+d<q*y0):=by
 obtain⟨a0,a1,b0,b1,n0,n1,d0,d1⟩:=p;obtain⟨q0,q1,e,r0,r1,up⟩:=h;rw[OT (n:=4294967296*r) ⟨by omega,by unfold BB;omega⟩,OT (n:=4294967296*r+d) ⟨by omega,by unfold BB;omega⟩];by_cases hq:4294967296<=q
 ·rw[bD hq,bD<|show _\/_ from .inl hq,Ey]
 ·have h1:0<=q*y0:=qx q0 b0;have h2:q*y0<=4294967295*4294967295:=vz (by omega) (by omega) b0 (by omega);rw[OT (n:=q*y0) ⟨h1,by unfold BB;omega⟩,cr hq,BV]
  congr 1
  simp[hq]
def XN(p:HP y1 y0 N d)(h:HQ y1 y0 N d q)(hy:y=y1*4294967296+y0):
  IntKind.wrap .u64 (IntKind.wrap .u64 (IntKind.wrap .u64 (N*4294967296)+d)-IntKind.wrap .u64 (q*y))=N*4294967296+d-q*y:=by
 obtain⟨a0,a1,b0,b1,n0,n1,d0,d1⟩:=p;obtain⟨q0,q1,lo,up⟩:=h;subst hy;simp only[wrW];rw[kD,Int.one_mul] at up
 generalize q*(y1*4294967296+y0)=Z at*
 unfold BB;omega
def A4(h:n≠0):2^Nat.log2 n<=n/\n<2^(Nat.log2 n+1):=⟨Nat.log2_self_le h,Nat.lt_log2_self⟩
def abC(h0:0<y)(h1:y<BB):∃s:Nat,JG y=some (s:Int)/\s<=63/\BB<=2*(y*2^s)/\y*2^s<BB:=by
 obtain⟨n,rfl⟩:=gk<|fH h0
 have hn:n≠0:=by omega
 obtain⟨l1,l2⟩:=A4 hn;have hl:Nat.log2 n<=63:=by
  have:Nat.log2 n<64:=by
   rw[xx hn];have:n<18446744073709551616:=by have:=h1;unfold BB at this;omega
   exact this
  omega
 refine⟨63-Nat.log2 n,?_,by omega,?_,?_⟩
 ·unfold JG v8;rw[bD (show(0:Int)<=(n:Int) by omega),bD<|show((n:Nat):Int)<18446744073709551616 from h1];show some (64-((CF ((n:Nat):Int).toNat:Nat):Int))=_;have:CF n=Nat.log2 n+1:=by
   unfold CF;have:Nat.beq n 0=false:=by
    cases hb:Nat.beq n 0 with
    |false=>rfl
    |true=>exact absurd (fB hb) hn
   rw[this];rfl
  rw[Int.toNat_natCast,this]
  congr 1;omega
 ·have e:2^(63-Nat.log2 n)*2^Nat.log2 n=2^63:=by rw[<-qa];congr 1;omega
  have:2^63<=2^(63-Nat.log2 n)*n:=by rw[<-e];exact EG _ l1
  have h2:(2:Int)^63<=2^(63-Nat.log2 n)*(n:Int):=by exact_mod_cast this
  rw[Int.mul_comm] at h2;unfold BB;omega
 ·have e:2^(63-Nat.log2 n)*2^(Nat.log2 n+1)=2^64:=by rw[<-qa];congr 1;omega
  have:2^(63-Nat.log2 n)*n<2^64:=by rw[<-e];exact Nat.mul_lt_mul_of_pos_left l2<|ED _
  have h2:2^(63-Nat.log2 n)*(n:Int)<(2:Int)^64:=by exact_mod_cast this
  rw[Int.mul_comm] at h2;unfold BB;omega
def Oj(hx:0<=x/\x<BB)(hy:0<y):Wl .u64 x y=some (x/y):=by
 unfold Wl;rw[cr (show¬y=0 by omega)];show some (IntKind.wrap .u64<|x.tdiv y)=_;rw[Int.tdiv_eq_ediv_of_nonneg hx.1,OT ⟨qy hx.1<|fH hy,Int.lt_of_le_of_lt (zA _ hx.1) hx.2⟩]
def xm(hx:0<=x)(hy:0<y):sH x y=some (x%y):=by
 unfold sH;rw[cr (show¬y=0 by omega)];show some (x.tmod y)=_;rw[Int.tmod_eq_emod_of_nonneg hx]
def agh:Hu .u64 x 32=some (x/4294967296):=aex (s:=32) (by omega)
def Qq{hi lo:Int}(Ug:0<=hi/\hi<y)(FU:0<=lo/\lo<BB)(hy:y<BB):
  Yd (fun p=>(0<=p.1/\p.1<BB)/\(0<=p.2/\p.2<y)/\hi*BB+lo=p.1*y+p.2) (mm hi lo y):=by
 unfold mm;dsimp only[wr];refine Yd.cond (fun hc=>absurd (bf hc) (by omega)) (fun _=>Yd.cond (fun hc=>absurd (bf hc) (by omega))<|fun _=>Yd.cond (fun h0=>?_)<|fun h0=>?_)
 ·have h0:=bf h0;subst h0;refine Yd.bd (Oj FU Ug.2) (Yd.bd (xm FU.1 Ug.2) (Yd.mk ⟨⟨qy FU.1 (by omega),Int.lt_of_le_of_lt (zA _ FU.1) FU.2⟩,⟨rP _ (by omega),qA _ Ug.2⟩,?_⟩));have:=yH lo y;rw[Int.mul_comm] at this;dsimp only;omega
 ·have h0:=bP h0;obtain⟨s,l1,l2,l3,l4⟩:=abC (y:=y) (by omega) hy;have ws:IntKind.wrap .u64 (s:Int)=s:=OT ⟨by omega,by unfold BB;omega⟩;have am9:IntKind.wrap .u64 ((64:Int)-s)=64-s:=OT ⟨by omega,by unfold BB;omega⟩;have ps:=two_pos s;have hgt:hi*2^s+2^s<=y*2^s:=by
   have:(hi+1)*2^s<=y*2^s:=tE (by omega)<|fH ps
   rw[kD,Int.one_mul] at this;exact this
  have hn:0<=hi*2^s:=qx Ug.1<|fH ps
  obtain⟨u0,u1,e1,e2,a1,a2,a3,a4,a5,a6⟩:=Ki (x:=lo) (s:=s) (by omega) FU;have eY:Hv .u64 y (s:Int)=some (y*2^s):=by rw[aey (by omega),B3 (by omega) l4]
  have eH:Hv .u64 hi (s:Int)=some (hi*2^s):=by rw[aey (by omega),B3 hn (by omega)]
  have eO:mN .or .u64 (hi*2^s) u1=hi*2^s+u1:=Yg (s:=s) hn a3 a4 (Int.mul_emod_left _ _) (by omega);refine Yd.bd l1 ?_;rw[ws,am9];refine Yd.bd eY<|Yd.bd agh<|Yd.bd eH<|Yd.bd e2<|Yd.bd e1<|Yd.bd agh ?_
  rw[eO,UD (x:=u0) ⟨a1,a2⟩,UD (x:=y*2^s) ⟨by omega,l4⟩];have V8:hi*BB*2^s+lo*2^s=(hi*2^s+u1)*BB+u0:=by
   rw[a6,kD,LU hi BB,Int.mul_comm BB u1];omega
  generalize hYd:y*2^s=Y at*
  generalize hNd:hi*2^s+u1=N at*
  have y1b:2147483648<=Y/4294967296:=by unfold BB at*;omega
  have y1c:Y/4294967296<4294967296:=by unfold BB at*;omega
  have yy:Y=Y/4294967296*4294967296+Y%4294967296:=by omega
  have hP1:HP (Y/4294967296) (Y%4294967296) N (u0/4294967296):=⟨y1b,y1c,by omega,by omega,by omega,by omega,by omega,by unfold BB at*;omega⟩;have hu:u0=u0/4294967296*4294967296+u0%4294967296:=by omega
  have u00:0<=u0%4294967296:=by omega
  have u01:u0%4294967296<4294967296:=by omega
  have hYB:Y<BB:=l4
  generalize Y/4294967296=y1 at*
  generalize Y%4294967296=y0 at*
  generalize u0/4294967296=d1 at*
  generalize u0%4294967296=d0 at*
  have hN:0<=N/\N<BB:=⟨hP1.n0,by omega⟩;refine Yd.bd (Oj hN (by omega)) ?_;refine Yd.jn (HQ y1 y0 N d1) ?_ ?_
  ·intro q1 hq1;rw[XN hP1 hq1 yy];have g1:=hq1.lo;have g2:=hq1.up;rw[<-yy] at g1 g2;rw[kD,Int.one_mul] at g2;have hP2:HP y1 y0 (N*4294967296+d1-q1*Y) d0:=⟨y1b,y1c,hP1.b0,hP1.b1,by omega,by omega,u00,u01⟩
   generalize hM:N*4294967296+d1-q1*Y=M at*
   refine Yd.bd (Oj ⟨hP2.n0,by omega⟩ (by omega)) ?_;refine Yd.jn (HQ y1 y0 M d0) ?_ ?_
   ·intro q0 ZD;rw[XN hP2 ZD yy];have f1:=ZD.lo;have f2:=ZD.up;rw[<-yy] at f1 f2;rw[kD,Int.one_mul] at f2;have IL:hi*BB*2^s+lo*2^s=(q1*4294967296+q0)*Y+(M*4294967296+d0-q0*Y):=by
     rw[V8,kD,LU];unfold BB
     generalize q1*Y=A at*
     generalize q0*Y=B at*
     omega
    generalize hR:M*4294967296+d0-q0*Y=R at*
    have hR0:0<=R:=by omega
    have hR1:R<Y:=by omega
    refine Yd.bd (aex (by omega))<|Yd.mk ?_
    have q1a:=hq1.q0;have q1b:=hq1.q1;have q0a:=ZD.q0;have q0b:=ZD.q1;have eq:IntKind.wrap .u64 (IntKind.wrap .u64 (q1*4294967296)+q0)=q1*4294967296+q0:=by
     rw[OT (n:=q1*4294967296) ⟨by omega,by unfold BB;omega⟩,OT ⟨by omega,by unfold BB;omega⟩]
    dsimp only;rw[eq];have hdiv:R=2^s*(hi*BB+lo-(q1*4294967296+q0)*y):=by
     rw[<-hYd] at IL;rw[lX,bp,Int.mul_comm (2^s)<|hi*BB,Int.mul_comm (2^s) lo,Int.mul_comm (2^s)<|_*y,eS _ y];omega
    have hdd:R/2^s=hi*BB+lo-(q1*4294967296+q0)*y:=by
     rw[hdiv,Int.mul_ediv_cancel_left _ (by omega)]
    refine⟨⟨by omega,by unfold BB;omega⟩,⟨qy hR0 (by omega),IB ps (by rw[hYd];exact hR1)⟩,?_⟩;rw[hdd];omega
   ·intro k hk;have ZK:=XL hP2;have w1:0<=M/y1:=qy hP2.n0 (by omega);have e1:IntKind.wrap .u64 (M-IntKind.wrap .u64 (M/y1*y1))=M-M/y1*y1:=by
     have:=ZK.e;have:=ZK.r0;have:=ZK.r1;have h1:0<=M/y1*y1:=qx w1 (by omega);rw[OT (n:=M/y1*y1) ⟨h1,by have:=hP2.n1;omega⟩,OT ⟨by omega,by unfold BB;omega⟩]
    rw[e1];refine Yd.lp (fun s:Int×Int=>HS y1 y0 M d0 s.2 s.1) (fun s:Int×Int=>s.2.toNat) ?_ _ _ ZK (by have:=ZK.q0;have:=ZK.q1;dsimp only;omega);rintro next ⟨r,q⟩ h ace
    dsimp only at h⊢;rw[XM hP2 h];have wr1:IntKind.wrap .u64 (r+y1)=r+y1:=OT ⟨by have:=h.r0;omega,by have:=h.r1;unfold BB;omega⟩;refine Yd.cond (fun hc=>?_)<|fun hc=>?_
    ·have hc:=bf hc;have hup:=(XJ hP2 h hc).1;have wq:IntKind.wrap .u64 (q-1)=q-1:=OT ⟨by omega,by have:=h.q1;unfold BB;omega⟩;simp only[wr1,wq];refine Yd.cond (fun hd=>?_)<|fun hd=>?_
     ·exact hk _<|Ua hP2 h hc<|bf hd
     ·exact ace _ (XK hP2 h hc (by have:=bP hd;omega)) (by dsimp only;omega)
    ·have hc:=bP hc;exact hk _<|agz hP2 h (fun a=>hc<| .inl a)<|fun a=>hc<| .inr a
  ·intro k hk;have ZK:=XL hP1;have w1:0<=N/y1:=qy hP1.n0 (by omega);have e1:IntKind.wrap .u64 (N-IntKind.wrap .u64 (N/y1*y1))=N-N/y1*y1:=by
    have:=ZK.e;have:=ZK.r0;have:=ZK.r1;have h1:0<=N/y1*y1:=qx w1 (by omega);rw[OT (n:=N/y1*y1) ⟨h1,by omega⟩,OT ⟨by omega,by unfold BB;omega⟩]
   rw[e1];refine Yd.lp (fun s:Int×Int=>HS y1 y0 N d1 s.1 s.2) (fun s:Int×Int=>s.1.toNat) ?_ _ _ ZK (by have:=ZK.q0;have:=ZK.q1;dsimp only;omega);rintro next ⟨q,r⟩ h ace
   dsimp only at h⊢;rw[XM hP1 h];have wr1:IntKind.wrap .u64 (r+y1)=r+y1:=OT ⟨by have:=h.r0;omega,by have:=h.r1;unfold BB;omega⟩;refine Yd.cond (fun hc=>?_)<|fun hc=>?_
   ·have hc:=bf hc;have hup:=(XJ hP1 h hc).1;have wq:IntKind.wrap .u64 (q-1)=q-1:=OT ⟨by omega,by have:=h.q1;unfold BB;omega⟩;simp only[wr1,wq];refine Yd.cond (fun hd=>?_)<|fun hd=>?_
    ·exact hk _<|Ua hP1 h hc<|bf hd
    ·exact ace _ (XK hP1 h hc (by have:=bP hd;omega)) (by dsimp only;omega)
   ·have hc:=bP hc;exact hk _<|agz hP1 h (fun a=>hc<| .inl a)<|fun a=>hc<| .inr a
def N7:(List.replicate n (0:Int)).getD m 0=0:=by
 rcases jI m n with h|h
 ·simp[gy,h]
 ·exact zH (by simpa using h)
def TE{lo:Int}(hs:s<=64)(h:lo%2^s=0)(hl:lo<BB):lo+2^s<=BB:=by
 have e:=yH lo<|2^s
 rw[h] at e;have h2:=qM hs;have p:=two_pos s
 generalize lo/2^s=k at*
 have hk:k<2^(64-s):=by
  rcases(show k<2^(64-s)\/2^(64-s)<=k by omega) with h'|h'
  ·exact h'
  ·have:=jB h' (fH p);omega
 have:=jB (show k+1<=2^(64-s) from hk)<|fH p
 rw[bp,po] at this;omega
def UC(hx:0<=x)(hy:0<=y)(hs:y<2^s)(hd:x%2^s=0)(hw:x+y<BB):mN .or .u64 y x=x+y:=by
 rw[<-Yg hx hy hs hd hw];unfold mN;dsimp only;rw[BitVec.or_comm]
def Kp(ha:okW a)(hs:s<=63)(hl:a.length<2199023255552):Yd (fun w=>okW w/\w.length=a.length+1/\aL w=aL a*2^s) (qW a (s:Int)):=by
 unfold qW;refine Yd.bd (aM ⟨by omega,by omega⟩) (Yd.bd (HX (by omega) (by omega) (by omega)) ?_);have ps:=two_pos s;refine Yd.lp (fun t:ard Int×Int=>okW t.1/\t.1.length=a.length+1/\0<=t.2/\t.2<=a.length/\t.1.getD t.2.toNat 0<2^s/\(∀m,t.2.toNat<m->t.1.getD m 0=0)/\aL (t.1.take<|t.2.toNat+1)=aL (a.take t.2.toNat)*2^s)
  (fun t:ard Int×Int=>a.length-t.2.toNat) ?_ _ _ ⟨nS _,by simp only[uQ];omega,by dsimp only;omega,by dsimp only;omega,?_,?_,?_⟩ (by dsimp only;omega)
 rotate_left
 ·dsimp only;rw[N7];exact ps
 ·intro m hm;exact N7
 ·dsimp only;rw[Iz,xQ];simp[aL]
 rintro next ⟨o,i⟩ ⟨h1,h2,h3,h4,h5,h6,h7⟩ hn
 simp only at h1 h2 h3 h4 h5 h6 h7 hn⊢;obtain⟨n,rfl⟩:=gk h3;simp only[Int.toNat_natCast,tz] at*;refine Yd.cond (fun hc=>?_)<|fun hc=>?_
 ·have hc:=bf hc;refine Yd.jn (fun p:ard Int=>okW p/\p.length=a.length+1/\p.getD (n+1) 0<2^s/\(∀m,n+1<m->p.getD m 0=0)/\aL (p.take<|n+2)=aL (a.take<|n+1)*2^s) ?_ ?_
  ·rintro p ⟨g1,g2,g3,g4,g5⟩;refine Yd.bd (aM ⟨by omega,by omega⟩) (hn _ ⟨g1,g2,by dsimp only;omega,by dsimp only;omega,?_⟩ (by dsimp only;omega));have e:(((n:Nat):Int)+1).toNat=n+1:=by omega
   simp only[e];exact⟨g3,g4,g5⟩
  ·intro k hk;obtain⟨lo,hi,b1,b2,b3,b4,b5,b6,b7,b8⟩:=Ki (x:=a.getD n 0) (s:=s) (by omega)<|eX ha n
   have ak8:=TE (by omega) b7 b4;have ho:=eX h1 n;have eor:mN .or .u64 (o.getD n 0) lo=lo+o.getD n 0:=UC b3 ho.1 h5 b7 (by omega);refine Yd.bd (bQ (by omega)) (Yd.bd (bQ (by omega)) (Yd.bd (bQ (by omega)) (Yd.bd b1 (Yd.bd (bQ (by omega)) (Yd.bd (bQ (by omega)) ?_)))));rw[eor];have Ug:hi<BB:=by
    have h2:=qM (s:=s) (by omega);have:=two_pos<|64-s
    have:(2:Int)^s*1<=2^s*2^(64-s):=jB this<|fH ps
    omega
   have acq:aL (o.take n)+gM n*o.getD n 0=aL (a.take n)*2^s:=by rw[<-h7,bj]
   have Fb:aL (o.take n)+gM n*(lo+o.getD n 0)+gM (n+1)*hi=aL (a.take<|n+1)*2^s:=by
    rw[bj a,kD,<-acq,eS,b8,bp,bp,jq,iu<|gM n,eS BB];omega
   refine Yd.cond (fun hd=>?_)<|fun hd=>?_
   ·have hd:=bf hd;have e1:((n:Nat):Int)+1=((n+1:Nat):Int):=by omega
    rw[e1];refine Yd.bd (aM ⟨by omega,by omega⟩) (Yd.bd (aM ⟨by omega,by omega⟩)<|Yd.bd b2 ?_);refine Yd.bd (bQ (by rw[ou];omega)) (Yd.bd (bQ (by rw[ou];omega)) ?_);simp only[Int.toNat_natCast];refine hk _ ⟨me (me h1 _ ⟨by omega,by omega⟩) _ ⟨b5,Ug⟩,by simpa using h2,?_,?_,?_⟩
    ·rw[dv (by rw[ou];omega)];exact b6
    ·intro m hm;rw[getD_set_ne (by omega),getD_set_ne (by omega)];exact h6 m (by omega)
    ·rw[bj,dr<|bC _,dv (by rw[ou];omega),bj,dr<|bC _,dv (by omega)];exact Fb
   ·have hd:=bP hd;have ZC:s=0:=by omega
    subst ZC;have aoc:hi=0:=by rw[Int.pow_zero] at b6;omega
    subst aoc;refine hk _ ⟨me h1 _ ⟨by omega,by omega⟩,by simpa using h2,?_,?_,?_⟩
    ·rw[getD_set_ne (by omega),h6 _ (by omega)];exact ps
    ·intro m hm;rw[getD_set_ne (by omega)];exact h6 m (by omega)
    ·have e2:(o.set n<|lo+o.getD n 0).getD (n+1) 0=0:=by rw[getD_set_ne (by omega),h6 _ (by omega)]
     rw[bj,e2,bj,dr<|bC _,dv (by omega)];exact Fb
 ·have hc:=bP hc;have KA:n=a.length:=by omega
  subst KA;refine Yd.mk ⟨h1,h2,?_⟩;rw[eJ (l:=o) (by omega),eJ (l:=a) (by omega)] at h7;exact h7
def XC{m:Int}(hP:0<P)(hU:UL<P)(hV:0<=VL)(hm:0<=m)(h:X+1<=m*Y):UL+P*X<m*(VL+P*Y):=by
 have h1:=jB h<|fH hP
 rw[bp,po] at h1;have h2:0<=m*VL:=qx hm hV;rw[bp,iu m P Y];omega
def afh(e:q*v1+r=U2)(h:BB*r+u0<q*v0):(u0+BB*U2)+1<=q*(v0+BB*v1):=by
 rw[bp,iu q BB v1,<-e,bp];omega
def afi(e:q*v1+r=U2)(hr:r<v1)(hu:u0<BB)(hq:0<=q)(hv:0<=v0):(u0+BB*U2)+1<=(q+1)*(v0+BB*v1):=by
 rw[bp,iu _ BB v1,<-e,kD q 1 v1,Int.one_mul];have:0<=(q+1)*v0:=qx (by omega) hv;unfold BB at*;omega
def afj{R:Int}(e:q*v1+R=U2)(hq:0<=q/\q<BB)(hR:0<=R)(K7:0<=v0/\v0<BB)(hu0:0<=u0)(hv1:BB<=2*v1)(h:BB<=R\/q*v0<=BB*R+u0)
 (hP:0<P)(hU:0<=UL)(hV:VL<P)(hV0:0<=VL):(q-1)*(VL+P*(v0+BB*v1))<=UL+P*(u0+BB*U2):=by
 have hY:q*(v0+BB*v1)<=u0+BB*U2:=by
  rw[bp,iu q BB v1,<-e,bp];have:q*v0<=BB*R+u0:=by
   rcases h with h|h
   ·have:q*v0<=(BB-1)*(BB-1):=vz (by omega) (by omega) K7.1 (by unfold BB;omega);unfold BB at*;omega
   ·exact h
  omega
 have h1:=jB hY<|fH hP
 have h2:q*VL<=BB*P:=vz (by omega) (by omega) hV0 (by unfold BB;omega);have h3:P*BB<=P*(v0+BB*v1):=jB (by unfold BB at*;omega)<|fH hP
 rw[Int.sub_mul,Int.one_mul,bp q,iu q P];rw[Int.mul_comm P BB] at h3;omega
def ahQ{u1 u2:Int}(hP:0<P)(hU:0<=UL)(hu0:0<=u0)(hu1:0<=u1)(hV:VL<P)(K7:v0<BB)(h:UL+P*(u0+BB*(u1+BB*u2))<BB*(VL+P*(v0+BB*v1))):u2<=v1:=by
 rcases(show v1<u2\/u2<=v1 by omega) with h'|h'
 ·exfalso;have h1:BB*(v0+BB*v1+1)<=u0+BB*(u1+BB*u2):=by unfold BB at*;omega
  have h2:=jB h1<|fH hP
  rw[iu P BB,bp P _ 1,po] at h2;rw[bp BB VL] at h;rw[bp BB _ P] at h2;have h3:BB*VL<=BB*P:=jB (by omega) (by unfold BB;omega);omega
 ·exact h'
end
end Trn
