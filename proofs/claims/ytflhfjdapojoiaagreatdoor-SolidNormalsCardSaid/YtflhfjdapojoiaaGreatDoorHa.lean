/-
  Part of the proof of SolidNormals.
-/
import Derived.Test.YtflhfjdapojoiaaGreatDoorFa
import Derived.Test.YtflhfjdapojoiaaGreatDoorMa
import Derived.Test.YtflhfjdapojoiaaGreatDoorSa
import Derived.Shelf.SlSortCmp.NoneTotal
set_option maxRecDepth 100000
set_option maxHeartbeats 20000000
set_option linter.all false
open Go Go.RowKit Go.Proofs Go.Proofs.Tryz
namespace Trn
section
open Go.Shelf
variable[D:DR]
variable{k:Nat}{xs:att arH}
def chunk(k:Nat)(xs:att arH)(i:Nat):att arH:=(xs.drop<|i*k).take k
theorem tZ{n:Nat}(h:xs.length=n*k){i:Nat}(hi:i<n):(chunk k xs i).length=k:=by
 have:(i+1)*k<=n*k:=mF k hi;rw[pb,qf] at this;simp[chunk];omega
theorem Qh{n:Nat}(h:xs.length=n*k){t:Nat}(ht:t<n*k):(chunk k xs<|t/k)[t%k]? =xs[t]? :=by
 have hk:0<k:=(r9 k).elim (fun e=>by subst e;simp at ht) id;have hm:=te t hk;unfold chunk;rw[yv,if_pos hm,wW]
 congr 1
 rw[qJ];exact Nat.div_add_mod t k
theorem WQ{ys:att arH}(h:ys.length=k):chunk k (ys++xs) 0=ys:=by
 simp[chunk,<-h]
theorem WR{ys:att arH}(h:ys.length=k)(i:Nat):chunk k (ys++xs) (i+1)=chunk k xs i:=by
 unfold chunk;rw[pb,qf,wS,<-h,vh];have e:List.drop (ys.length+i*ys.length) ys=[]:=List.drop_eq_nil_of_le (by omega);rw[e,qL]
 congr 2;omega
end
section
open Go.Shelf
variable[D:DR]
variable{P:Program}{A:Type}{τ:A->Ty}{k:Nat}{H:HV}
theorem tD(hn:∀a,(τ a).n=k)(ha:∀a,(τ a).agg=true):∀{l:att A} {xs:att arH},vH H (lT τ l) xs->xs.length=l.length*k/\∀i (hi:i<l.length),(τ l[i]).ok H (.agg (chunk k xs i).toArray)
 |[],xs,h=>by
  have h:xs=[]:=h;subst h;exact⟨by simp,fun i hi=>absurd hi<|Nat.not_lt_zero _⟩
 |a::l,xs,h=>by
  obtain⟨v,rest,e,hv,hr⟩:=h;have sh:=(τ a).shape hv;obtain⟨hl,hc⟩:=tD hn ha hr;have hs:v.cells.toList.length=k:=by rw[gF,sh.size,hn]
  subst e;refine⟨by simp only[List.length_append,hs,hl,List.length_cons];rw[pb];omega,fun i hi=>?_⟩;cases i with
  |zero=>
   rw[WQ hs];have e:=sh.eq;rw[ha] at e;have e:v= .agg v.cells:=e;simpa[<-e] using hv
  |succ i=>
   rw[WR hs];exact hc i (by simpa using hi)
theorem wK:∀{l:att A} {xs:att arH},xs.length=l.length*k->(∀i (hi:i<l.length),(τ l[i]).ok H<| .agg (chunk k xs i).toArray)->vH H (lT τ l) xs
 |[],xs,h,_=>pZ (by simpa using h)
 |a::l,xs,h,hc=>by
  have hlen:xs.length=k+l.length*k:=by simpa[pb,wS] using h
  have h0:=hc 0 (by simp);have e0:chunk k xs 0=xs.take k:=by simp[chunk]
  rw[e0] at h0;refine⟨_,xs.drop k,?_,h0,wK (by simp[hlen]) fun i hi=>?_⟩
  ·simp[Value.cells]
  ·have:=hc (i+1) (by simpa using hi);have e:chunk k xs (i+1)=chunk k (xs.drop k) i:=by
    unfold chunk;rw[iS,pb,qf,wS]
   rwa [e] at this
end
section
open Go.Shelf
variable[D:DR]
variable{w:arG}
theorem Yk{w':arG}(h: @Ex DR.strict w.heap.size w w'):∃q os,w'=Go.Sort.grow (w.drewN q) os:=by
 refine⟨w'.drawn-w.drawn,w'.heap.extract w.heap.size w'.heap.size,?_⟩;have hd:w.drawn+(w'.drawn-w.drawn)=w'.drawn:=by have h:w.drawn<=w'.drawn:=Ex.drawn (D:=DR.strict) h;omega
 have hh:w.heap++w'.heap.extract w.heap.size w'.heap.size=w'.heap:=by
  apply Array.ext_getElem?;intro i;rw[LK];have hs:=(Ex.toBelow (D:=DR.strict) h).size;split
  ·rename_i hi;exact((Ex.toBelow (D:=DR.strict) h).block i hi).symm
  ·rename_i hi;rw[Array.getElem?_extract];by_cases h2:i-w.heap.size<min w'.heap.size w'.heap.size-w.heap.size
   ·rw[if_pos h2];congr 1;omega
   ·rw[if_neg h2]
    symm;apply Ii
    omega
 obtain⟨heap,tape,drawn,os,output⟩:=w';obtain⟨asT,ar4,arB,os0,anK⟩:=w;simp only[World.drewN,Go.Sort.grow];simp only[World.mk.injEq];have hb:=Ex.toBelow (D:=DR.strict) h;exact⟨hh.symm,hb.tape,hd.symm,hb.os,hb.output⟩
theorem pE{α:Type}[Inhabited α]{enc:α->att arH}{k:Nat}{blk off m:Nat}{dk:awa α}{os:awa Obj}{r:Nat}(hr:r<w.heap.size)(hne:r≠blk):(sortWorldK enc k w blk off m dk os).heap[r]? =w.heap[r]? :=by
 unfold sortWorldK Go.Sort.grow Go.Sort.putRowK Go.Sort.putRow Go.Sort.mapBlock Go.Sort.ahead;simp only[LK,Array.size_modify,hr,if_pos,Cz];rw[if_neg<|fun e=>hne e.symm]
theorem xC{α:Type}[Inhabited α]{enc:α->att arH}{k:Nat}{blk off m:Nat}{dk:awa α}{os:awa Obj}:w.heap.size<=(sortWorldK enc k w blk off m dk os).heap.size:=by
 unfold sortWorldK Go.Sort.grow Go.Sort.putRowK Go.Sort.putRow Go.Sort.mapBlock Go.Sort.ahead;simp
end
section
open Go.Shelf
variable[D:DR]
variable{P:Program}{A:Type}{τ:A->Ty}{k:Nat}{H:HV}{c:A×A->Option Int}
theorem NV(hn:∀a,(τ a).n=k)(ha:∀a,(τ a).agg=true){l:att A}{xs:att arH}{w:arG}{blk off g:Nat}{cap:awa arH}{qn:att Ty}(hxs:vH H (lT τ l) xs)
  (sub:∀r o,H r=some o->w.heap[r]? =some o)(gl:qU P H)(hB:H blk=none)(Iu:Ce H qn cap.toList)
  (hf:∀a r,c a=some r-> @fN DR.strict P g ([τ a.1,τ a.2]++qn) (.vs [TI .i64 r]))(cf:Fin l.length->Fin l.length->Int)(tot:∀i j,c (l[i],l[j])=some (cf i j))[Inhabited<|Fin l.length]:
  CmpLays P g cap (fun i:Fin l.length=>chunk k xs i) k cf blk off l.length w:=by
 intro m os dk hdk x y;obtain⟨_,hc⟩:=tD hn ha hxs;have hs:∀r o,H r=some o->(sortWorldK (fun i:Fin l.length=>chunk k xs i) k w blk off m dk os).heap[r]? =some o:=fun r o h=>by
  have h1:=sub r o h;rw[pE (lt_of_heap h1) (fun e=>by rw[e,hB] at h;cases h)];exact h1
 have hr:=fN.run (D:=DR.strict) (hf (l[x],l[y]) _<|tot x y) _ H ([Value.agg (chunk k xs x).toArray,Value.agg (chunk k xs y).toArray]++cap.toList) hs gl<|zf ⟨_,_,rfl,hc x x.2,_,_,rfl,hc y y.2,rfl⟩ Iu
 have ea:([Value.agg (chunk k xs x).toArray,Value.agg (chunk k xs y).toArray]++cap.toList).toArray= #[Value.agg (chunk k xs x).toArray,Value.agg (chunk k xs y).toArray]++cap:=by simp
 rw[ea] at hr;refine hr.mono ?_;rintro e w' ⟨v,rfl,hb,H',_,_,hv⟩;have hv:v= .int .i64 (cf x y):=hv;subst hv;exact⟨rfl,Yk hb⟩
end
section
open Go.Shelf
variable[D:DR]
variable{α:Type}{k:Nat}{cur:awa arH}
theorem Gu[Inhabited α]{enc:α->att arH}(hk:∀x,(enc x).length=k){d:awa α}{i:Nat}(hi:i<d.size):chunk k (Go.Sort.flatK enc k d).toList i=enc d[i]! :=by
 have hb:i*k+k<=d.size*k:=by
  have:=mF k<|show i+1<=d.size from hi
  rwa [pb,qf] at this
 apply EZ;intro t;unfold chunk;rw[yv];by_cases ht:t<k
 ·rw[if_pos ht,wW,wj];have hlt:i*k+t<d.size*k:=by omega
  have e1:(i*k+t)/k=i:=by rw[qJ,Nat.mul_add_div (by omega),Nat.div_eq_of_lt ht,Al]
  have e2:(i*k+t)%k=t:=by rw[qJ,Nat.mul_add_mod,Av ht]
  have hl:=hk d[i]!;unfold Go.Sort.flatK;rw[Array.getElem?_map,Array.getElem?_range,if_pos hlt,Aq,e1,e2,pS (enc d[i]!) t (by omega),j7 (by omega)]
 ·rw[if_neg ht,E4 (by rw[hk];omega)]
theorem It{n:Nat}{xs:att arH}{w:arG}{blk:Nat}{E:ato}[Inhabited<|Fin n](hl:xs.length=n*k)(hb:w.heap[blk]? =some (.cells cur E (0,0)))(ht:cur.toList.take (n*k)=xs):
  Go.Sort.HoldsK (fun i:Fin n=>chunk k xs i) k w blk 0 (Array.ofFn fun i:Fin n=>i):=by
 unfold Go.Sort.HoldsK Go.Sort.Holds;intro j hj;rw[Go.Sort.size_flatK,EW] at hj;have Gm:cur[j]? =xs[j]? :=by rw[<-ht,yv,if_pos hj,wj]
 have hk:0<k:=(r9 k).elim (fun e=>by subst e;simp at hj) id;have hi:j/k<n:=Nat.div_lt_of_lt_mul (by rw[qJ];exact hj);refine⟨?_,by simp[World.frozen?,hb]⟩;rw[Go.Sort.get_flatK _ _ _ _ (by simpa using hj),vd];rw[H7 hb,Gm];have e1:(Array.ofFn fun i:Fin n=>i)[j/k]! =⟨j/k,hi⟩:=by rw[pS (Array.ofFn fun i:Fin n=>i) (j/k) (by simpa using hi)];simp
 rw[e1];have hg:=Qh hl hj;have hlt:j%k<(chunk k xs<|j/k).length:=by rw[tZ hl hi];exact te _ hk
 show xs[j]? =some (id (chunk k xs<|j/k)[j%k]!);rw[<-hg,pS (chunk k xs<|j/k) (j%k) hlt,j7 hlt];rfl
theorem yd[Inhabited α]{enc:α->att arH}{w:arG}{blk m:Nat}{dk:awa α}{os:awa Obj}{E:ato}{fr:Nat×Nat}(hb:w.heap[blk]? =some (.cells cur E fr)):
  (sortWorldK enc k w blk 0 m dk os).heap[blk]? =some (.cells (Go.Sort.putCells id 0 (Go.Sort.flatK enc k dk) cur) E fr):=by
 unfold sortWorldK Go.Sort.grow Go.Sort.putRowK Go.Sort.putRow Go.Sort.mapBlock Go.Sort.ahead;simp only[LK,Array.size_modify,lt_of_heap hb,if_pos,Cz,hb,Aq]
 rfl
theorem FP[Inhabited α]{d:awa arH}(h:d.size<=cur.size):(Go.Sort.putCells id 0 d cur).toList.take d.size=d.toList:=by
 apply EZ;intro i;rw[yv];split
 ·rename_i hi;rw[wj,wj];unfold Go.Sort.putCells;rw[Array.getElem?_mapIdx,E5 (by omega:i<cur.size),Aq,if_pos ⟨iR _,by omega⟩,Nat.sub_zero,E5 hi,pS d i hi];rfl
 ·rename_i hi;rw[E4 (by simpa using hi)]
end
section
open Go.Shelf
variable[D:DR]
variable{P:Program}{ρ:Ren}{A:Type}[DecidableEq A]{τ:A->Ty}{k:Nat}{c:A×A->Option Int}
variable{l r:att A}
theorem ZD{α:Type}{l:att α}{d:awa (Fin l.length)}(h:d.toList.Perm (Array.ofFn fun i:Fin l.length=>i).toList):(d.toList.map fun i=>l[i]).Perm l:=by
 have h1:=h.map fun i:Fin l.length=>l[i]
 have e:(Array.ofFn fun i:Fin l.length=>i).toList.map (fun i:Fin l.length=>l[i])=l:=by
  rw[Array.toList_ofFn,List.map_ofFn];exact List.ofFn_getElem
 rwa [e] at h1
theorem Ps(hm:nC l c=some r)[Inhabited<|Fin l.length]{cf:Fin l.length->Fin l.length->Int}(tot:∀i j,c (l[i],l[j])=some (cf i j)){d:awa (Fin l.length)}
 (hp:Go.Sort.PermIn 0 l.length (Array.ofFn fun i:Fin l.length=>i) d)(hs:Go.Sort.SortedIn (ltOf cf) 0 l.length d):d.size=l.length/\(d.toList.map fun i=>l[i])=r:=by
 obtain⟨h1,h2,_,_⟩:=xg hm;obtain⟨hz,_,P1⟩:=hp;rw[EW] at hz;have e1:d.extract 0 d.size=d:=Array.extract_size;rw[hz] at e1;have e2:(Array.ofFn fun i:Fin l.length=>i).extract 0 l.length=Array.ofFn fun i:Fin l.length=>i:=by
  have h:(Array.ofFn fun i:Fin l.length=>i).extract 0 (Array.ofFn fun i:Fin l.length=>i).size=Array.ofFn fun i:Fin l.length=>i:=Array.extract_size
  rwa [EW] at h
 rw[e1,e2] at P1;have RO:=ZD P1;refine⟨hz,Pr h2 (RO.trans h1.symm) ?_⟩;refine LP.2 fun i j hi hj Vh=>?_
 simp only[c7,gF] at hi hj;have hlt:=hs i j (iR _) Vh (by omega);rw[pS d j hj,pS d i hi] at hlt;simp only[List.getElem_map,Array.getElem_toList];have hn: ¬cf d[j] d[i]<0:=by simpa[ltOf] using hlt
 have mem:∀i:Fin l.length,l[i]∈r:=fun i=>h1.mem_iff.2<|rY _
 have:=mt (Hl h2 (mem d[j]) (mem d[i])<|tot d[j] d[i]).2 hn;omega
theorem S1(hm:nC l c=some r){cf:Fin l.length->Fin l.length->Int}(tot:∀i j,c (l[i],l[j])=some (cf i j)):Go.Sort.SWO (ltOf cf):=by
 obtain⟨h1,h2,_,_⟩:=xg hm;have mem:∀i:Fin l.length,l[i]∈r:=fun i=>h1.mem_iff.2<|rY _
 have key:∀i j,ltOf cf i j=decide (r.idxOf l[i]<r.idxOf l[j]):=fun i j=>by
  unfold ltOf;exact l8.2<|Hl h2 (mem i) (mem j)<|tot i j
 refine⟨fun x=>?_,fun x y z h1 h2=>?_,fun x y z h1 h2=>?_⟩
 ·rw[key];simp
 ·rw[key] at*;simp only[jc] at*;omega
 ·rw[key] at*;simp only[me] at*;omega
theorem abr(hn:∀a,(τ a).n=k)(ha:∀a,(τ a).agg=true){xs:att arH}{H:HV}{w:arG}{blk pq:Nat}{cur:awa arH}{E:ato}{B:ar P}(sub:∀r o,H r=some o->w.heap[r]? =some o)(ij:vH H (lT τ l) xs)
 (hown:∀b,Value.ownBlock (.slice (some ⟨blk,0,none⟩) l.length pq)=some b->H b=none/\B.nX b)(hblk:w.heap[blk]? =some (.cells cur E (0,0)))(hnc:l.length<=pq)(hcm:pq<=maxLen)(hcs:cur.size=pq*k)[Inhabited<|Fin l.length]
 {d':awa (Fin l.length)}(hdz:d'.size=l.length)(Yi:(d'.toList.map fun i=>l[i])=r)(m:Nat)(os:awa Obj):
  IG (fun b=>Value.ownBlock (.slice (some ⟨blk,0,none⟩) l.length pq)=some b) w H (sortWorldK (fun i:Fin l.length=>chunk k xs i) k w blk 0 m d' os) H/\xX B (sortWorldK (fun i:Fin l.length=>chunk k xs i) k w blk 0 m d' os) H E k (lT τ r) (.slice (some ⟨blk,0,none⟩) l.length pq):=by
 obtain⟨Ir,Sm⟩:=tD hn ha ij;have hrl:r.length=l.length:=by rw[<-Yi];simpa using hdz
 have yB:=yd (enc:=fun i:Fin l.length=>chunk k xs i) (k:=k) (m:=m) (dk:=d') (os:=os) hblk;have Sl:(Go.Sort.flatK (fun i:Fin l.length=>chunk k xs i) k d').size=l.length*k:=by rw[Go.Sort.size_flatK,hdz]
 have hle:l.length*k<=cur.size:=by rw[hcs];exact mF k hnc
 have Nx:=FP (α:=Fin l.length) (d:=Go.Sort.flatK (fun i:Fin l.length=>chunk k xs i) k d') (cur:=cur) (by rw[Sl];exact hle);refine⟨Tr.Fs (M:=fun b=>Value.ownBlock (.slice (some ⟨blk,0,.none⟩) l.length pq)=some b) ⟨xC,rfl,rfl,rfl,?_,fun i hi hne=>pE hi (fun e=>hne (by rw[e];rfl))⟩ sub fun b hb=>(hown b hb).1,
   ⟨(Go.Sort.flatK (fun i:Fin l.length=>chunk k xs i) k d').toList,?_,?_,hown⟩⟩
 ·refine JQ.of ?_;show w.drawn<=(sortWorldK _ k w blk 0 m d' os).drawn;unfold sortWorldK Go.Sort.grow Go.Sort.putRowK Go.Sort.putRow Go.Sort.mapBlock Go.Sort.ahead;exact Cv _ _
 ·have Ny:(lT τ r).length=l.length:=by rw[c7,hrl]
  rw[Ny];refine⟨by rw[gF,Sl],.inr ⟨blk,pq,_,rfl,iR _,yB,hnc,hcm,?_,?_⟩⟩
  ·rw[<-hcs];simp[Go.Sort.putCells]
  ·rw[<-Sl];exact Nx
 ·refine wK (by rw[gF,Sl,hrl]) fun i hi=>?_
  have hi2:i<d'.size:=by omega
  rw[Gu (fun i=>tZ Ir i.2) hi2];rw[pS d' i hi2];have e:r[i]=l[d'[i]]:=by
   have:r[i]? =(d'.toList.map fun i=>l[i])[i]? :=by rw[Yi]
   rw[j7 hi,kD,wj,E5 hi2] at this;simpa using this
  rw[e];exact Sm _ d'[i].2
set_option maxHeartbeats 1000000 in
theorem Jb(L:SlLaysF0.n6 P ρ)(aE:∀w,(isAgg<|ρ.t 24).run P w= .ok true w)(zE:∀w,(Go.sizeOf<|ρ.t 24).run P w= .ok k w)(hc:fR P (ρ.f 6)=true)
 (hn:∀a,(τ a).n=k)(ha:∀a,(τ a).agg=true)(none:∀(p:av8 Addr) (cap:Nat) (fv:arH) (w:arG),Calls P (ρ.f 6) #[.slice p 0 cap,fv] w fun e w'=>e= .returned (.tuple #[])/\w'=w)
 (hm:nC l c=some r):
  kN P (ρ.f 6) [] (.buf (ρ.t 24) k<|lT τ l) (.buf (ρ.t 24) k<|lT τ r) [U8 P (fun x:A×A=>[τ x.1,τ x.2]) (fun x:Int=>[(TI .i64) x]) c] []:=by
 obtain⟨h1,h2,h3,h4⟩:=xg hm;refine⟨hc,fun w H v ps qs sub gl hp hq hs=>?_⟩;have hp:=HB hp;subst hp;obtain⟨fv,rfl,hfv⟩:=uK hq;obtain⟨g,cap,qn,rfl,Iu,hf⟩:=hfv;obtain⟨xs,hown,ij,hH⟩:=hs;have hlen:(lT τ l).length=l.length:=c7 ..;rw[hlen] at hown;have Fs:∀b,v.ownBlock=some b->H b= .none:=fun b hb=>(hH b hb).1
 by_cases hl0:l=[]
 ·subst hl0;have hr:r=[]:=List.Perm.eq_nil h1;subst hr;obtain⟨p,pq,rfl⟩:∃p pq,v= .slice p 0 pq:=by
   rcases hown.2 with⟨hv,_⟩|⟨g,cap,cur,hv,_⟩
   ·exact⟨_,_,hv⟩
   ·exact⟨_,_,hv⟩
  refine(none p pq _ w).mono ?_;rintro e w' ⟨rfl,rfl⟩;exact⟨_,rfl,H,(Tr.refl _ _).Fs sub Fs,⟨xs,hown,ij,hH⟩,fun b hb=> .inl hb,#[],rfl,rfl⟩
 ·have hpos:0<l.length:=E3.2 hl0;obtain⟨blk,pq,cur,rfl,hblk,hnc,hcm,hcs,htake⟩:∃blk pq cur,v= .slice (some ⟨blk,0,.none⟩) l.length pq/\w.heap[blk]? =some (.cells cur (ρ.t 24) (0,0))/\l.length<=pq/\pq<=maxLen/\cur.size=pq*k/\cur.toList.take (l.length*k)=xs:=by
   rcases hown.2 with⟨_,hz⟩|⟨g,cap,cur,hv,_,r⟩
   ·omega
   ·exact⟨g,cap,cur,hv,r⟩
  haveI:Inhabited (Fin l.length):=⟨⟨0,hpos⟩⟩
  obtain⟨Ir,Sm⟩:=tD hn ha ij
  let cf:Fin l.length->Fin l.length->Int:=fun i j=>(c (l[i],l[j])).getD 0
  have tot:∀i j:Fin l.length,c (l[i],l[j])=some (cf i j):=fun i j=>by
   obtain⟨v,hv⟩:=h3 _ (rY i.2) _<|rY j.2
   have hv:c (l[i],l[j])=some v:=hv;show c (l[i],l[j])=some ((c (l[i],l[j])).getD 0);rw[hv];rfl
  have hB:H blk= .none:=Fs blk rfl;have Wo:=fN.can (D:=DR.strict)<|hf _ _<|tot ⟨0,hpos⟩ ⟨0,hpos⟩
  have hcmp:=NV (P:=P) (off:=0) hn ha ij sub gl hB Iu hf cf tot;have hd:(Array.ofFn fun i:Fin l.length=>i).size=l.length:=EW;have main:=AnyQ.slices_SortFunc L k aE zE (fun i:Fin l.length=>chunk k xs i) (fun i=>tZ Ir i.2)
   (fun i u hu=>xn ij u<|yx<|zx hu) cf (S1 hm tot) g cap blk 0 pq (Array.ofFn fun i:Fin l.length=>i) w
   (fun args w=>ke Wo args w) (by rw[hd];exact hcmp) (It Ir hblk htake) (lt_of_heap hblk) (by rw[hd];exact h4)
  rw[hd] at main;refine main.mono ?_;rintro e w' ⟨rfl,d',m,os,P1,acw,rfl⟩;obtain⟨hdz,Yi⟩:=Ps hm tot P1 acw;obtain⟨ht,hr⟩:=abr hn ha (B:=ar.KK P w fun b=>(bO.buf (ρ.t 24) k<|lT τ l).owns w (.slice (some ⟨blk,0,.none⟩) l.length pq) b) sub ij hH hblk hnc hcm hcs hdz Yi m os;exact⟨_,rfl,H,ht,hr,fun b hb=> .inl hb,#[],rfl,rfl⟩
end
section
open Go.Shelf Go.Sort
variable[D:DR]
variable{n:Nat}{dk:awa (Fin n)}{kp:Nat->Bool}{k m kk blk off:Nat}
structure KU(n:Nat)(kp:Nat->Bool)(m kk:Nat)(dk:awa (Fin n)):Prop where
 size:dk.size=n
 le:kk<m
 low:(dk.toList.take kk).map (·.val)=(List.range m).filter kp
 high:∀j (hj:j<n),m-1<=j->∀h:j<dk.size,dk[j]=⟨j,hj⟩
theorem KU.len(h:KU n kp m kk dk)(hm:m<=n):kk=((List.range m).filter kp).length:=by
 rw[<-h.low,c7,List.length_take,gF,h.size];have:=h.le;omega
theorem KU.start(hk:k<n)(hall:∀j,j<k->kp j=true)(hn:kp k=false):KU n kp (k+1) k (Array.ofFn fun i:Fin n=>i):=by
 refine⟨by simp,by omega,?_,fun j hj _ h=>by simp⟩;rw[List.range_succ,E1,List.filter_eq_self.2<|fun j hj=>hall j<|yt.1 hj];have e:List.filter kp [k]=[]:=by simp[hn]
 rw[e,rW,Array.toList_ofFn];apply EZ;intro i;rw[kD,yv];by_cases hi:i<k
 ·rw[if_pos hi,j7 (by simp;omega),j7 (by simpa using hi)];simp
 ·rw[if_neg hi,E4 (by simpa using hi)];rfl
theorem KU.skip(h:KU n kp m kk dk)(hn:kp m=false):KU n kp (m+1) kk dk:=by
 have:=h.le;refine⟨h.size,by omega,?_,fun j hj hm=>h.high j hj (by omega)⟩;rw[List.range_succ,E1,<-h.low];simp[hn]
theorem KU.mH(h:KU n kp m kk dk)(hm:m<n)(hn:kp m=true):KU n kp (m+1) (kk+1) (dk.setIfInBounds kk ⟨m,hm⟩):=by
 have h0:=h.le;refine⟨by simp[h.size],by omega,?_,fun j hj Z7 h2=>?_⟩
 ·rw[List.range_succ,E1,<-h.low];have e:List.filter kp [m]=[m]:=by simp[hn]
  rw[e];have hs:=h.size;have hkk:kk<dk.toList.length:=by rw[gF,hs];omega
  rw[LQ,Lr,List.take_set_of_le<|bp _,Ih hkk,wh]
  rfl
 ·rw[Array.getElem_setIfInBounds (by simpa using h2),if_neg (by omega)];exact h.high j hj (by omega) _
theorem agW{P:atp}{A:Type}{τ:A->Ty}{H:HV}{c:A×A->av8 Bool}(hn:∀a,(τ a).n=k)(ha:∀a,(τ a).agg=true){l:att A}{xs:att arH}{w:arG}{g:Nat}{cap:awa arH}{qn:att Ty}(hxs:vH H (lT τ l) xs)
 (sub:∀r o,H r=some o->w.heap[r]? =some o)(gl:qU P H)(hB:H blk=none)(Iu:Ce H qn cap.toList)
 (hf:∀a r,c a=some r-> @fN DR.strict P g ([τ a.1,τ a.2]++qn) (.vs [bj r]))[Inhabited<|Fin l.length](m:Nat)(os:awa Obj)(dk:awa (Fin l.length))(x y:Fin l.length){b:Bool}(hb:c (l[x],l[y])=some b):
  Calls P g (#[.agg (chunk k xs x).toArray,.agg (chunk k xs y).toArray]++cap) (sortWorldK (fun i:Fin l.length=>chunk k xs i) k w blk off m dk os) fun e w'=>e= .returned (.bool b)/\∃q os',w'=Go.Sort.grow ((sortWorldK (fun i:Fin l.length=>chunk k xs i) k w blk off m dk os).drewN q) os':=by
 obtain⟨_,hc⟩:=tD hn ha hxs;have hs:∀r o,H r=some o->(sortWorldK (fun i:Fin l.length=>chunk k xs i) k w blk off m dk os).heap[r]? =some o:=fun r o h=>by
  have h1:=sub r o h;rw[pE (lt_of_heap h1) (fun e=>by rw[e,hB] at h;cases h)];exact h1
 have hr:=fN.run (D:=DR.strict) (hf (l[x],l[y]) _ hb) _ H ([Value.agg (chunk k xs x).toArray,Value.agg (chunk k xs y).toArray]++cap.toList) hs gl<|zf ⟨_,_,rfl,hc x x.2,_,_,rfl,hc y y.2,rfl⟩ Iu
 have ea:([Value.agg (chunk k xs x).toArray,Value.agg (chunk k xs y).toArray]++cap.toList).toArray= #[Value.agg (chunk k xs x).toArray,Value.agg (chunk k xs y).toArray]++cap:=by simp
 rw[ea] at hr;refine hr.mono ?_;rintro e w' ⟨v,rfl,hb,H',_,_,hv⟩;have hv:v= .bool b:=hv;subst hv;exact⟨rfl,Yk hb⟩
theorem Fx{cs:awa arH}:(Builtin.zeroCells cs n).toList.length=n*cs.size:=by simp[Builtin.zeroCells]
theorem Ol{cs:awa arH}(h:∀v∈cs.toList,v.oneCell'=true):∀v∈(Builtin.zeroCells cs n).toList,v.oneCell'=true:=by
 intro v hv;unfold Builtin.zeroCells at hv;rw[Array.toList_map,bT] at hv;obtain⟨i,hi,rfl⟩:=hv;have hi:i<n*cs.size:=by simpa using hi
 have hp:0<cs.size:=(r9 cs.size).elim (fun e=>by rw[e] at hi;simp at hi) id;have hm:=te i hp;rw[pS cs (i%cs.size) hm];exact h _ (by simp)
theorem KF{P:atp}{W:arG}{S E ty:ato}{z:arH}{c s:Nat}{F:awa arH}(hS:P.underlying S=some (.slice E))(hz:∀w,(zeroValue E).run P w= .ok z w)(h1:∀v∈z.cells.toList,v.oneCell'=true)(h:Holds id W blk off F)
 (hs:s+n*z.cells.size<=F.size)(hn:0<n):(Builtin.clear_ #[S] ty #[.slice (some ⟨blk,off+s,none⟩) n c]).run P W= .ok (.tuple #[]) (W.setCells blk (off+s) (Builtin.zeroCells z.cells n).toList):=by
 have C6:=stores_of_holds P h s (Builtin.zeroCells z.cells n).toList (by rw[Fx];exact hs)<|Ol h1
 obtain⟨n,rfl⟩:∃m,n=m+1:=⟨n-1,by omega⟩;unfold Builtin.clear_;simp[fE,aV hS,hz,C6,Result.andThen]
theorem S5[Inhabited<|Fin n]{enc:Fin n->att arH}(hk:∀x,(enc x).length=k){i:Nat}(hi:i<dk.size)(x:Fin n):setMany (flatK enc k dk) (i*k) (enc x)=flatK enc k (dk.setIfInBounds i x):=by
 refine ext_get! (by simp) fun t ht=>?_
 have ht':t<dk.size*k:=by simpa using ht
 have k0:0<k:=(r9 k).elim (fun h=>by subst h;simp at ht') id;rw[get_setMany _ _ _ t (by simpa using ht'),get_flatK _ _ _ t ht',get_flatK _ _ _ t (by simpa using ht'),hk];by_cases a:t/k=i
 ·rw[if_pos<|(blk_iff k i t k0).2 a];have m:t-i*k=t%k:=by subst a;rw[Nat.mod_eq_sub_div_mul]
  rw[m,a,pS (dk.setIfInBounds i x) i (by simpa using hi),Array.getElem_setIfInBounds_self]
 ·rw[if_neg<|fun h=>a<|(blk_iff k i t k0).1 h];have hd:t/k<dk.size:=Nat.div_lt_of_lt_mul (by rw[qJ];exact ht');rw[pS (dk.setIfInBounds i x) (t/k) (by simpa using hd),pS dk (t/k) hd,Array.getElem_setIfInBounds_ne _<|fun e=>a e.symm]
theorem aeZ[Inhabited<|Fin n]{enc:Fin n->att arH}{w0 W:arG}(h:SWK enc k w0 blk off dk W)(hk:∀x,(enc x).length=k)(hblk:blk<w0.heap.size){i:Nat}(hi:i<dk.size)(x:Fin n):
  SWK enc k w0 blk off (dk.setIfInBounds i x) (W.setCells blk (off+i*k)<|enc x):=by
 obtain⟨m,os,rfl⟩:=h;refine⟨m,os,?_⟩;have hb:i*k+k<=dk.size*k:=by
  have:=mF k<|show i+1<=dk.size from hi
  rwa [pb,qf] at this
 unfold sortWorldK;rw[setCells_grow os blk _ _ _ (by show blk<(putRowK enc k _ blk off dk).heap.size;rw[size_putRowK];exact hblk)]
 congr 1
 unfold putRowK;rw[setCells_putRow _ _ _ _ _ _ (by rw[hk,size_flatK];exact hb),S5 hk hi]
end
end Trn
namespace ad2
section
open Go.Shelf Go.Lib Go.Sort
set_option maxHeartbeats 4000000 in
set_option maxRecDepth 1000000 in
theorem WM{P:Program}(F:P.funcs[221]? =some f221)(mixed:P.follows .mixedOrders=true)(t0:P.underlying 0=prog.underlying 0)(t3:P.underlying 3=some (.int .i64))(a3:∀w,(isAgg 3).run P w= .ok false w)(z3:∀w,(Go.sizeOf 3).run P w= .ok 1 w)(v3:∀w,(zeroValue 3).run P w= .ok (.int .i64 0) w)(t4:P.underlying 4=some .bool)(a4:∀w,(isAgg 4).run P w= .ok false w)(z4:∀w,(Go.sizeOf 4).run P w= .ok 1 w)(t114:P.underlying 114=some (.slice 97))(a114:∀w,(isAgg 114).run P w= .ok false w)(z114:∀w,(Go.sizeOf 114).run P w= .ok 1 w)
  {k:Nat}(a97:∀w,(isAgg 97).run P w= .ok true w)(z97:∀w,(Go.sizeOf 97).run P w= .ok k w)(zv:Value)(v97:∀w,(zeroValue 97).run P w= .ok zv w)(hzs:zv.cells.size=k)(hz1:∀v∈zv.cells.toList,v.oneCell'=true){n:Nat}[Inhabited<|Fin n](enc:Fin n->List Value)(hk:∀x,(enc x).length=k)(h1:∀x,∀v∈enc x,v.oneCell'=true)(g:Nat)(cb:Array Value)(kp:Nat->Bool)(k0:kp 0=true)(blk off cap:Nat)(w:World)
  (eg:∀args w,(callFunc g args).run P w= .ok (.enter g args) w)(hH:HoldsK enc k w blk off (Array.ofFn fun i:Fin n=>i))(hblk:blk<w.heap.size)(hcap:n<=cap)(hsz:n<=9223372036854775807)
  (hcmp:∀(m:Nat) (os:Array Obj) (dk:Array (Fin n)) (j:Nat) (hj:j+1<n),Calls P g (#[.agg (enc ⟨j+1,hj⟩).toArray,.agg (enc ⟨j,Nat.lt_of_succ_lt hj⟩).toArray]++cb) (sortWorldK enc k w blk off m dk os) fun e w'=>e= .returned (.bool<| !kp (j+1))/\∃q os',w'=grow ((sortWorldK enc k w blk off m dk os).drewN q) os'):
  Calls P 221 #[.slice (some ⟨blk,off,none⟩) n cap,.func (.func g) #[] cb] w fun e w'=>∃kk dk zs W,e= .returned (.slice (some ⟨blk,off,none⟩) kk cap)/\kk=((List.range n).filter kp).length/\SWK enc k w blk off dk W/\dk.size=n/\(dk.toList.take kk).map (·.val)=(List.range n).filter kp/\w'=W.setCells blk (off+kk*k) zs/\zs.length<=(n-kk)*k:=by
 have kz:∀j,j<1->kp j=true:=fun j hj=>by
  obtain rfl:j=0:=by omega
  exact k0
 have hpos:0<n:=Fin.pos default;have hd0:(Array.ofFn fun i:Fin n=>i).size=n:=Array.size_ofFn;have S0:Aside (SWK enc k w blk off (Array.ofFn fun i:Fin n=>i) w):=SWK.start hH;have RR:Aside (RowK enc k w blk off (Array.ofFn fun i:Fin n=>i)):=⟨hk,h1,hH,hblk⟩;have CM:Aside (∀(m:Nat) (os:Array Obj) (dk:Array (Fin n)) (j:Nat) (hj:j+1<n),Calls P g (#[.agg (enc ⟨j+1,hj⟩).toArray,.agg (enc ⟨j,Nat.lt_of_succ_lt hj⟩).toArray]++cb) (sortWorldK enc k w blk off m dk os) fun e w'=>e= .returned (.bool<| !kp (j+1))/\∃q os',w'=grow ((sortWorldK enc k w blk off m dk os).drewN q) os'):=hcmp;clear hH hk h1 hcmp;have all:∀W,SWK enc k w blk off (Array.ofFn fun i:Fin n=>i) W->(∀j,j<n->kp j=true)->∃kk dk zs W',(Ending.returned<| .slice (some ⟨blk,off,none⟩) n cap)= .returned (.slice (some ⟨blk,off,none⟩) kk cap)/\kk=((List.range n).filter kp).length/\SWK enc k w blk off dk W'/\dk.size=n/\(dk.toList.take kk).map (·.val)=(List.range n).filter kp/\W=W'.setCells blk (off+kk*k) zs/\zs.length<=(n-kk)*k:=fun W hW hall=>by
  have e:(List.range n).filter kp=List.range n:=List.filter_eq_self.2 fun j hj=>hall j<|List.mem_range.1 hj
  refine⟨n,_,[],W,rfl,by rw[e];simp,hW,hd0,?_,rfl,Nat.zero_le _⟩;rw[e,Array.toList_ofFn];apply List.ext_getElem
  ·simp
  ·intro i h1 h2;simp
 have ALL:Aside (∀W,SWK enc k w blk off (Array.ofFn fun i:Fin n=>i) W->(∀j,j<n->kp j=true)->∃kk dk zs W',(Ending.returned<| .slice (some ⟨blk,off,none⟩) n cap)= .returned (.slice (some ⟨blk,off,none⟩) kk cap)/\kk=((List.range n).filter kp).length/\SWK enc k w blk off dk W'/\dk.size=n/\(dk.toList.take kk).map (·.val)=(List.range n).filter kp/\W=W'.setCells blk (off+kk*k) zs/\zs.length<=(n-kk)*k):=all;clear all;by_cases h2:n<2
 ·go_enter F,ntmps221
  go_wp2
  go_ret
  exact ALL.out w S0.out fun j hj=>kz j (by omega)
 ·go_enter F,ntmps221
  go_wp2
  go_loopg [5] n (fun gg s5 wr=>∃kx:Nat,1<=kx/\kx<=n/\n-kx<=gg/\s5= .int .i64 kx/\Aside (SWK enc k w blk off (Array.ofFn fun i:Fin n=>i) wr)/\Aside (∀j,j<kx->kp j=true))
  case atStart=>exact⟨1,Nat.le_refl _,by omega,by omega,by first|rfl|go_num,S0,kz⟩
  case round=>
   clear S0;obtain⟨kx,hk1,hkn,hg,rfl,SW,HA⟩:=hrel;by_cases hlt:kx<n
   ·obtain⟨j,rfl⟩:∃j,kx=j+1:=⟨kx-1,by omega⟩;have jz:(j:Int)+1<(n:Int):=by omega
    have jz1:(j:Int)<(n:Int):=by omega
    have p0:(0:Int)<=(j:Int)+1:=by omega
    have e0:((j:Int)+1).toNat=j+1:=by omega
    have hwp:IntKind.i64.wrap (j:Int)=(j:Int):=by rw[IntKind.wrap_i64];omega
    obtain⟨cx,hcx⟩:∃c,(enc ⟨j+1,hlt⟩).toArray=c:=⟨_,rfl⟩;obtain⟨cy,hcy⟩:∃c,(enc ⟨j,Nat.lt_of_succ_lt hlt⟩).toArray=c:=⟨_,rfl⟩;have lj:∀n' os',Sem.run P (loadCellsFrom ⟨blk,off+(j+1)*k,none⟩ 0 k #[]) (grow (wr.drewN n') os')= .ok cx (grow (wr.drewN n') os'):=fun n' os'=>by
     have:=SW.out.ld RR.out (by rw[hd0]) P (j+1) (by rw[hd0];exact hlt) n' os';rw[this,<-hcx,getElem!_pos _ _ (by rw[hd0];exact hlt)];simp
    have lp:∀n' os',Sem.run P (loadCellsFrom ⟨blk,off+j*k,none⟩ 0 k #[]) (grow (wr.drewN n') os')= .ok cy (grow (wr.drewN n') os'):=fun n' os'=>by
     have:=SW.out.ld RR.out (by rw[hd0]) P j (by rw[hd0];omega) n' os';rw[this,<-hcy,getElem!_pos _ _ (by rw[hd0];omega)];simp
    have hcg:∀n' os',Calls P g (#[.agg cx,.agg cy]++cb) (grow (wr.drewN n') os') fun e w'=>e= .returned (.bool<| !kp (j+1))/\∃q os'',w'=grow ((grow (wr.drewN n') os').drewN q) os'':=fun n' os'=>by
     obtain⟨m,os0,hw⟩:=SW.out.grown n' os';rw[hw,<-hcx,<-hcy];exact CM.out m os0 _ j hlt
    cases hkp:kp (j+1) with
    |true=>
     rw[hkp,Bool.not_true] at hcg
     go_wp2_with fail
     go_quiet_grown (first|(go_at_fn g;refine Calls.grown_of<|hcg _ _))
     go_wp2
     go_roundg (n-(j+1+1))
     case measure=>omega
     case rel=>exact⟨j+1+1,by omega,by omega,Nat.le_refl _,by first|rfl|go_num,SW.out.grown nq osq,fun i hi=>by
      rcases Nat.lt_or_ge i (j+1) with h|h
      ·exact HA.out i h
      ·have:i=j+1:=by omega
       rw[this];exact hkp⟩
    |false=>
     rw[hkp,Bool.not_false] at hcg
     go_wp2_with fail
     go_quiet_grown (first|(go_at_fn g;refine Calls.grown_of<|hcg _ _))
     have SW1:Aside (SWK enc k w blk off (Array.ofFn fun i:Fin n=>i)<|grow (wr.drewN nq) osq):=SW.out.grown nq osq;clear lj lp hcg
     generalize grow (wr.drewN nq) osq=wq at SW1⊢
     go_wp2
     go_loopg [5,7] n (fun gg s5 s7 wr=>∃(kk k2:Nat) (dk:Array (Fin n)),s5= .int .i64 kk/\s7= .int .i64 k2/\1<=k2/\j+1+k2<=n/\n-(j+1+k2)<=gg/\Aside (SWK enc k w blk off dk wr)/\Aside (Trn.KU n kp (j+1+k2) kk dk)/\kk<j+1+k2)
     case atStart=>exact⟨j+1,1,_,by first|rfl|go_num,rfl,Nat.le_refl _,by omega,by omega,SW1,Trn.KU.start hlt HA.out hkp,by omega⟩
     case round=>
      clear SW1;obtain⟨kk,k2,dk,rfl,rfl,h21,hle,hg2,SW2,CI,hkk⟩:=hrel;have hdk:dk.size=n:=CI.out.size;by_cases hlt2:j+1+k2<n
      ·obtain⟨i,rfl⟩:∃i,k2=i+1:=⟨k2-1,by omega⟩;have iz:(i:Int)+1<((n-(j+1):Nat):Int):=by omega
       have iz1:(i:Int)<((n-(j+1):Nat):Int):=by omega
       have q0:(0:Int)<=(i:Int)+1:=by omega
       have f0:((i:Int)+1).toNat=i+1:=by omega
       have hwq:IntKind.i64.wrap (i:Int)=(i:Int):=by rw[IntKind.wrap_i64];omega
       have ea:off+(j+1)*k+(i+1)*k=off+(j+1+(i+1))*k:=by rw[Nat.add_assoc,<-Nat.add_mul]
       have eb:off+(j+1)*k+i*k=off+(j+1+i)*k:=by rw[Nat.add_assoc,<-Nat.add_mul]
       have ga:dk[j+1+(i+1)]! =⟨j+1+(i+1),hlt2⟩:=by rw[getElem!_pos dk _ (by omega)];exact CI.out.high _ hlt2 (by omega) _
       have gb:dk[j+1+i]! =⟨j+1+i,Nat.lt_of_succ_lt hlt2⟩:=by rw[getElem!_pos dk _ (by omega)];exact CI.out.high (j+1+i) (Nat.lt_of_succ_lt hlt2) (show j+1+(i+1)-1<=j+1+i by omega) _
       obtain⟨cu,hcu⟩:∃c,enc ⟨j+1+(i+1),hlt2⟩=c:=⟨_,rfl⟩;obtain⟨cv,hcv⟩:∃c,enc ⟨j+1+i,Nat.lt_of_succ_lt hlt2⟩=c:=⟨_,rfl⟩;have lu:∀n' os',Sem.run P (loadCellsFrom ⟨blk,off+(j+1)*k+(i+1)*k,none⟩ 0 k #[]) (grow (wr.drewN n') os')= .ok cu.toArray (grow (wr.drewN n') os'):=fun n' os'=>by
        have:=SW2.out.ld RR.out (by rw[hd0];exact hdk) P (j+1+(i+1)) (by omega) n' os';rw[ea,this,ga,hcu]
       have lv:∀n' os',Sem.run P (loadCellsFrom ⟨blk,off+(j+1)*k+i*k,none⟩ 0 k #[]) (grow (wr.drewN n') os')= .ok cv.toArray (grow (wr.drewN n') os'):=fun n' os'=>by
        have:=SW2.out.ld RR.out (by rw[hd0];exact hdk) P (j+1+i) (by omega) n' os';rw[eb,this,gb,hcv]
       have hcg:∀n' os',Calls P g (#[.agg cu.toArray,.agg cv.toArray]++cb) (grow (wr.drewN n') os') fun e w'=>e= .returned (.bool<| !kp (j+1+(i+1)))/\∃q os'',w'=grow ((grow (wr.drewN n') os').drewN q) os'':=fun n' os'=>by
        obtain⟨m,os0,hw⟩:=SW2.out.grown n' os';rw[hw,<-hcu,<-hcv];exact CM.out m os0 dk (j+1+i) hlt2
       have GU:Aside (dk[j+1+(i+1)]! =⟨j+1+(i+1),hlt2⟩/\enc ⟨j+1+(i+1),hlt2⟩=cu):=⟨ga,hcu⟩;clear ea eb ga gb hcu hcv;cases hkq:kp (j+1+(i+1)) with
       |true=>
        rw[hkq,Bool.not_true] at hcg
        go_wp2_with fail
        go_quiet_grown (first|(go_at_fn g;refine Calls.grown_of<|hcg _ _))
        have SW3:Aside (SWK enc k w blk off dk<|grow (wr.drewN nq) osq):=SW2.out.grown nq osq;have l3:=lu nq osq;clear lu lv hcg SW2
        generalize grow (wr.drewN nq) osq=wq at SW3 l3⊢
        have n3:cu.length=k:=by rw[<-GU.out.2];exact RR.out.hk _
        have s3:Sem.run P (storeCells ⟨blk,off+kk*k,none⟩ cu 0) wq= .ok () (wq.setCells blk (off+kk*k) cu):=by
         rw[<-GU.out.2];exact stores_of_holds P (SW3.out.holds RR.out.hblk RR.out.hH (by rw[hdk,hd0])) (kk*k) _ (by rw[RR.out.hk,size_flatK];exact rowK_bnd dk k kk (by omega))<|RR.out.h1 _
        have kz1:(kk:Int)<(n:Int):=by omega
        go_wp2
        go_roundg (n-(j+1+(i+1+1)))
        case measure=>omega
        case rel=>exact⟨kk+1,i+1+1,dk.setIfInBounds kk ⟨j+1+(i+1),hlt2⟩,by first|rfl|go_num,by first|rfl|go_num,by omega,by omega,Nat.le_refl _,by
         show SWK _ _ _ _ _ _ _;rw[<-GU.out.2];exact Trn.aeZ SW3.out RR.out.hk RR.out.hblk (by omega) _,CI.out.mH hlt2 hkq,by omega⟩
       |false=>
        rw[hkq,Bool.not_false] at hcg
        go_wp2_with fail
        go_quiet_grown (first|(go_at_fn g;refine Calls.grown_of<|hcg _ _))
        have SW3:Aside (SWK enc k w blk off dk<|grow (wr.drewN nq) osq):=SW2.out.grown nq osq;clear lu lv hcg SW2
        generalize grow (wr.drewN nq) osq=wq at SW3⊢
        go_wp2
        go_roundg (n-(j+1+(i+1+1)))
        case measure=>omega
        case rel=>exact⟨kk,i+1+1,dk,rfl,by first|rfl|go_num,by omega,by omega,Nat.le_refl _,SW3,CI.out.skip hkq,by omega⟩
      ·have hend:j+1+k2=n:=by omega
       have hcl:∀ty,(Builtin.clear_ #[114] ty #[.slice (some ⟨blk,off+kk*k,none⟩) (n-kk)<|cap-kk]).run P wr= .ok (.tuple #[]) (wr.setCells blk (off+kk*k) (Builtin.zeroCells zv.cells<|n-kk).toList):=fun ty=>
        Trn.KF t114 v97 hz1 (SW2.out.holds RR.out.hblk RR.out.hH (by rw[hdk,hd0])) (by rw[hzs,size_flatK,hdk,<-Nat.add_mul];exact Nat.mul_le_mul_right k (by omega)) (by omega)
       have kz1:(kk:Int)<=(n:Int):=by omega
       have hzl:(Builtin.zeroCells zv.cells<|n-kk).toList.length<=(n-kk)*k:=by rw[Trn.Fx,hzs];exact Nat.le_refl _
       generalize (Builtin.zeroCells zv.cells<|n-kk).toList=zl at hcl hzl
       clear v97 hzs hz1
       go_wp2
       go_ret
       have C:=CI.out;rw[hend] at C;exact⟨kk,dk,zl,wr,rfl,C.len<|Nat.le_refl _,SW2.out,hdk,C.low,rfl,hzl⟩
   ·have:kx=n:=by omega
    subst this
    go_wp2
    go_ret
    exact ALL.out wr SW.out HA.out
set_option maxHeartbeats 4000000 in
set_option maxRecDepth 1000000 in
theorem WN(p:Option Addr)(m:Nat)(hm:m<2)(cap:Nat)(fv:Value)(w:World):Calls prog 221 #[.slice p m cap,fv] w fun e w'=>e= .returned (.slice p m cap)/\w'=w:=by
 go_enter func221,ntmps221
 go_wp2
 go_ret
 exact⟨rfl,rfl⟩
end
end ad2
namespace Trn
section
open Go.Shelf Go.Sort
variable[D:DR]
variable{α:Type}{blk:Nat}
def flags{α:Type}(l:att α)(bs:att Bool):att α:=((l.zip bs).filter (·.2)).map (·.1)
theorem NW{α:Type}{e:α->α->av8 Bool}:∀{l:att α} {x:α} {r:att α},Qf e x l=some r->∃bs:att Bool,bs.length=l.length/\(∀j (hj:j<l.length) (h2:j<(x::l).length) (h3:j<bs.length),e l[j] (x::l)[j]=some (!bs[j]))/\r=flags l bs
 |[],x,r,h=>by
  cases h;exact⟨[],rfl,fun j hj=>absurd hj<|Nat.not_lt_zero _,rfl⟩
 |y::l,x,r,h=>by
  obtain⟨b,hb,h⟩:=xN h;obtain⟨r',hr,h⟩:=xN h;obtain⟨bs,h1,h2,h3⟩:=NW hr;have h:=eQ h;refine⟨(!b)::bs,by simp[h1],fun j hj hj2 hj3=>?_,?_⟩
  ·cases j with
   |zero=>simpa using hb
   |succ j=>exact h2 j (by simpa using hj) (by simp at hj⊢;omega) (by simpa using hj3)
  ·rw[<-h,h3];cases b<;>simp[flags]
theorem Ki{α:Type}:∀{l:att α} {bs:att Bool},bs.length=l.length->((List.range l.length).filter fun j=>bs.getD j true).map (fun j=>l[j]?)=(flags l bs).map some
 |[],[],_=>rfl
 |[],_::_,h=>by simp at h
 |_::_,[],h=>by simp at h
 |x::l,b::bs,h=>by
  have ih:=Ki (l:=l) (bs:=bs) (by simpa using h);rw[List.length_cons,List.range_succ_eq_map,H6,List.filter_map];have e:(fun j=>(b::bs).getD j true)∘Nat.succ=fun j=>bs.getD j true:=by funext j;simp
  rw[e];have e2:(((List.range l.length).filter fun j=>bs.getD j true).map Nat.succ).map (fun j=>(x::l)[j]?)=(flags l bs).map some:=by
   rw[<-ih,Lm];apply List.map_congr_left;intro j _;simp
  cases b
  ·simpa[flags] using e2
  ·simpa[flags] using e2
theorem O2{l r:att α}{c:α×α->av8 Bool}(h:BP l c=some r):∃kp:Nat->Bool,kp 0=true/\(∀j (hj:j+1<l.length),c (l[j+1],l[j])=some (!kp (j+1)))/\((List.range l.length).filter kp).map (fun j=>l[j]?)=r.map some:=by
 cases l with
 |nil=>cases h;exact⟨fun _=>true,rfl,fun j hj=>absurd hj<|Nat.not_lt_zero _,rfl⟩
 |cons x l=>
  obtain⟨r',hr,h⟩:=xN h;have h:=eQ h;obtain⟨bs,h1,h2,h3⟩:=NW hr;refine⟨fun j=>(true::bs).getD j true,rfl,fun j hj=>?_,?_⟩
  ·have hj':j<l.length:=by simpa using hj
   have:=h2 j hj' (by simp;omega) (by omega);simp only[List.getElem_cons_succ,List.getD_cons_succ];rw[iy,j7 (by omega)];exact this
  ·rw[Ki (l:=x::l) (bs:=true::bs) (by simp[h1]),<-h,h3];simp[flags]
theorem Jv{W:arG}{o:Nat}{cur:awa arH}{E:ato}{fr:Nat×Nat}{v:arH}(h:W.heap[blk]? =some (.cells cur E fr)):(W.setCell ⟨blk,o,none⟩ v).heap[blk]? =some (.cells (cur.setIfInBounds o v) E fr):=by
 simp[World.setCell,Cz,h]
theorem AE{blk:Nat}{E:ato}{fr:Nat×Nat}:∀{vs:att arH} {W:arG} {o:Nat} {cur:awa arH},W.heap[blk]? =some (.cells cur E fr)->(W.setCells blk o vs).heap[blk]? =some (.cells (setMany cur o vs) E fr)
 |[],_,_,_,h=>h
 |v::vs,W,o,cur,h=>AE (vs:=vs)<|Jv h
theorem Iy{blk:Nat}:∀{vs:att arH} {W:arG} {o:Nat},CR W (W.setCells blk o vs) (some blk)
 |[],W,o=>⟨⟨rfl,rfl,rfl,bp _,fun _ _ _=>rfl⟩,bp _⟩
 |v::vs,W,o=>by
  have h:=Iy (blk:=blk) (vs:=vs) (W:=W.setCell ⟨blk,o,none⟩ v) (o:=o+1);refine⟨⟨h.os,h.tape,h.output,df (by simp[World.setCell]) h.size,fun k hk hne=>?_⟩,h.drawn⟩;have h1:=h.block k (by simpa[World.setCell] using hk) hne;show(World.setCells _ blk (o+1) vs).heap[k]? =_;rw[h1];exact Below.heap_setCell _ _ _ _ (fun e=>hne (by rw[e]))
theorem G3{m:Nat}:∀{vs:att arH} {F:awa arH} {s:Nat},m<=s->(setMany F s vs).toList.take m=F.toList.take m
 |[],_,_,_=>rfl
 |v::vs,F,s,h=>by
  rw[setMany,G3 (vs:=vs) (by omega),LQ,List.take_set_of_le h]
theorem NI[Inhabited α]{enc:α->att arH}{k:Nat}{w:arG}{m:Nat}{dk:awa α}{os:awa Obj}:CR w (sortWorldK enc k w blk 0 m dk os) (some blk):=by
 refine⟨⟨rfl,rfl,rfl,xC,fun i hi hne=>pE hi (fun e=>hne (by rw[e]))⟩,?_⟩;refine JQ.of ?_;show w.drawn<=(sortWorldK _ k w blk 0 m dk os).drawn;unfold sortWorldK Go.Sort.grow Go.Sort.putRowK Go.Sort.putRow Go.Sort.mapBlock Go.Sort.ahead;exact Cv _ _
theorem CR.trans{w w1 w2:arG}{row:av8 Nat}(h:CR w w1 row)(k:CR w1 w2 row):CR w w2 row:=
 ⟨⟨k.os.trans h.os,k.tape.trans h.tape,k.output.trans h.output,df h.size k.size,fun i hi hne=>(k.block i (nT hi h.size) hne).trans<|h.block i hi hne⟩,df h.drawn k.drawn⟩
end
section
open Go.Shelf Go.Sort
variable[D:DR]
variable{P:Program}{A:Type}{τ:A->Ty}{k:Nat}{c:A×A->Option Bool}{f E:Nat}
theorem R4(hc:fR P f=true)(hn:∀a,(τ a).n=k)(ha:∀a,(τ a).agg=true)
  (acA:∀(p:av8 Addr) (m:Nat) (hm:m<2) (cap:Nat) (fv:arH) (w:arG),Calls P f #[.slice p m cap,fv] w fun e w'=>e= .returned (.slice p m cap)/\w'=w)
  (alO:∀{n:Nat} [Inhabited<|Fin n] (enc:Fin n->att arH) (hk:∀x,(enc x).length=k) (h1:∀x,∀v∈enc x,v.oneCell'=true) (g:Nat) (cb:awa arH) (kp:Nat->Bool) (k0:kp 0=true) (blk off cap:Nat) (w:arG)
   (eg:∀args w,(callFunc g args).run P w= .ok (.enter g args) w) (hH:HoldsK enc k w blk off (Array.ofFn fun i:Fin n=>i)) (hblk:blk<w.heap.size) (hcap:n<=cap) (hsz:n<=9223372036854775807)
   (hcmp:∀(m:Nat) (os:awa Obj) (dk:awa (Fin n)) (j:Nat) (hj:j+1<n),Calls P g (#[.agg (enc ⟨j+1,hj⟩).toArray,.agg (enc ⟨j,Nat.lt_of_succ_lt hj⟩).toArray]++cb) (sortWorldK enc k w blk off m dk os) fun e w'=>e= .returned (.bool<| !kp (j+1))/\∃q os',w'=Go.Sort.grow ((sortWorldK enc k w blk off m dk os).drewN q) os'),
   Calls P f #[.slice (some ⟨blk,off,none⟩) n cap,.func (.func g) #[] cb] w fun e w'=>∃kk dk zs W,e= .returned (.slice (some ⟨blk,off,none⟩) kk cap)/\kk=((List.range n).filter kp).length/\SWK enc k w blk off dk W/\dk.size=n/\(dk.toList.take kk).map (·.val)=(List.range n).filter kp/\w'=W.setCells blk (off+kk*k) zs/\zs.length<=(n-kk)*k)
  {l r:att A}(hm:BP l c=some r):Fk P f E k (lT τ l) [U8 P (fun x:A×A=>[τ x.1,τ x.2]) (fun x:Bool=>[bj x]) c] (lT τ r):=by
 obtain⟨kp,hk0,hkp,hkr⟩:=O2 hm;refine⟨hc,fun w H v xs vs sub gl hown ij hH hvs=>?_⟩;obtain⟨fv,rfl,hfv⟩:=uK hvs;obtain⟨g,cap,qn,rfl,Iu,hf⟩:=hfv;have hlen:(lT τ l).length=l.length:=c7 ..;rw[hlen] at hown;by_cases hl0:l.length<2
 ·have hr:r=l:=by
   match l,hl0 with
   |[],_=>cases hm;rfl
   |[x],_=>cases hm;rfl
   |a::b::t,h=>simp only[List.length_cons] at h;omega
  subst hr;obtain⟨p,pq,rfl⟩:∃p pq,v= .slice p r.length pq:=by
   rcases hown.2 with⟨hv,h0⟩|⟨g,cap,cur,hv,_⟩
   ·exact⟨_,_,by rw[hv,h0]⟩
   ·exact⟨_,_,hv⟩
  refine(acA p r.length hl0 pq _ w).mono ?_;rintro e w' ⟨rfl,rfl⟩;exact⟨_,rfl,⟨⟨rfl,rfl,rfl,bp _,fun _ _ _=>rfl⟩,bp _⟩,xs,by rw[hlen];exact hown,ij,fun b hb=>hb⟩
 ·have hpos:0<l.length:=by omega
  obtain⟨blk,pq,cur,rfl,hblk,hnc,hcm,hcs,htake⟩:∃blk pq cur,v= .slice (some ⟨blk,0,.none⟩) l.length pq/\w.heap[blk]? =some (.cells cur E (0,0))/\l.length<=pq/\pq<=maxLen/\cur.size=pq*k/\cur.toList.take (l.length*k)=xs:=by
   rcases hown.2 with⟨_,hz⟩|⟨g,cap,cur,hv,_,r⟩
   ·omega
   ·exact⟨g,cap,cur,hv,r⟩
  haveI:Inhabited (Fin l.length):=⟨⟨0,hpos⟩⟩
  obtain⟨Ir,Sm⟩:=tD hn ha ij;have hB:H blk= .none:=hH blk rfl;have Wo:∀j (hj:j+1<l.length),fR P g=true:=fun j hj=>fN.can (D:=DR.strict)<|hf _ _<|hkp j hj
  have main:=alO (fun i:Fin l.length=>chunk k xs i) (fun i=>tZ Ir i.2) (fun i u hu=>xn ij u<|yx<|zx hu) g cap kp hk0 blk 0 pq w
   (fun args w=>ke (Wo 0 (by omega)) args w) (It Ir hblk htake) (lt_of_heap hblk) hnc (df hnc hcm)
   (fun m os dk j hj=>agW (off:=0) hn ha ij sub gl hB Iu hf m os dk ⟨j+1,hj⟩ ⟨j,Nat.lt_of_succ_lt hj⟩<|hkp j hj)
  refine main.mono ?_;rintro e w' ⟨kk,dk,zs,W,rfl,hkk,⟨m,os,rfl⟩,hdk,Wl,rfl,hzs⟩;have hlr:(dk.toList.take kk).map (fun i=>l[i])=r:=by
   have h1:((dk.toList.take kk).map fun i=>l[i]).map some=r.map some:=by
    rw[<-hkr,<-Wl,Lm,Lm];apply List.map_congr_left;intro i _;simp
   exact(List.map_inj_right<|fun a b h=>eQ h).1 h1
  have RP:kk<=l.length:=by
   rw[hkk];exact df (LJ ..) (by simp)
  have hrk:r.length=kk:=by rw[<-hlr,c7,List.length_take,gF,hdk];omega
  have Sl:(flatK (fun i:Fin l.length=>chunk k xs i) k dk).size=l.length*k:=by rw[size_flatK,hdk]
  have hle:l.length*k<=cur.size:=by rw[hcs];exact mF k hnc
  have hkm:kk*k<=l.length*k:=mF k RP;have yB:=AE (vs:=zs) (o:=0+kk*k)<|yd (enc:=fun i:Fin l.length=>chunk k xs i) (k:=k) (m:=m) (dk:=dk) (os:=os) hblk
  have Nx:=FP (α:=Fin l.length) (d:=flatK (fun i:Fin l.length=>chunk k xs i) k dk) (cur:=cur) (by rw[Sl];exact hle);rw[Sl] at Nx;refine⟨_,rfl,NI.trans Iy,(flatK (fun i:Fin l.length=>chunk k xs i) k dk).toList.take<|kk*k,?_,?_,fun b hb=>hb⟩
  ·rw[c7,hrk];refine⟨by rw[List.length_take,gF,Sl];exact fW hkm,.inr ⟨blk,pq,_,rfl,iR _,yB,by omega,hcm,?_,?_⟩⟩
   ·rw[size_setMany,<-hcs];simp[Go.Sort.putCells]
   ·rw[G3 (by omega),<-Nx,tj,fW hkm]
  ·refine wK (by rw[List.length_take,gF,Sl,hrk];exact fW hkm) fun i hi=>?_
   have hi2:i<dk.size:=by omega
   have ec:chunk k ((flatK (fun i:Fin l.length=>chunk k xs i) k dk).toList.take<|kk*k) i=chunk k (flatK (fun i:Fin l.length=>chunk k xs i) k dk).toList i:=by
    have hb:i*k+k<=kk*k:=by
     have:=mF k (show i+1<=kk by omega);rwa [pb,qf] at this
    unfold chunk;rw[uY,tj,fW (by rw[Nat.le_sub_iff_add_le (by omega)];omega)]
   rw[ec,Gu (fun i=>tZ Ir i.2) hi2,pS dk i hi2];have e:r[i]=l[dk[i]]:=by
    have:r[i]? =((dk.toList.take kk).map fun i=>l[i])[i]? :=by rw[hlr]
    rw[j7 hi,kD,yv,if_pos (by omega),wj,E5 hi2] at this;simpa using this
   rw[e];exact Sm _ dk[i].2
end
section
variable{l:att Int}{n:Nat}{x y:Int}{s:Nat}{q:Int}{ρ:Type}{R:ρ->Prop}{r:Int}{a:att Int}{y1 y0 N d:Int}{α:Type}{b:att Int}{m:Nat}{K:α->av8 ρ}{X Y u0 v0 v1:Int}{k:Nat}{P UL VL U2:Int}
def Yd{ρ:Type}(R:ρ->Prop)(o:av8 ρ):Prop:=∃r,o=some r/\R r
def Yd.mk{x:ρ}(h:R x):Yd R (some x):=⟨x,rfl,h⟩
def Yd.bd{α ρ:Type}{R:ρ->Prop}{e:av8 α}{K:α->av8 ρ}{x:α}(h:e=some x)(k:Yd R (K x)):Yd R (Trn.bd e K):=by subst h;exact k
def Yd.iG{S:α->Prop}{e:av8 α}(h:Yd S e)(k:∀x,S x->Yd R (K x)):Yd R (Trn.bd e K):=by
 obtain⟨x,rfl,hx⟩:=h;exact k x hx
def Yd.cond{ρ:Type}{R:ρ->Prop}{b:Bool}{x y:av8 ρ}(hx:b=true->Yd R x)(hy:b=false->Yd R y):Yd R (cond b x y):=by
 cases b
 ·exact hy rfl
 ·exact hx rfl
def Yd.gC{ρ:Type}{R:ρ->Prop}{b:Bool}{x:av8 ρ}(hb:b=true)(hx:Yd R x):Yd R (Trn.gC b x):=by subst hb;exact hx
def Yd.iJ{α ρ:Type}{R:ρ->Prop}{g:Bool}{d:α}{e:av8 α}{K:α->av8 ρ}(h1:g=true->∃x,e=some x/\Yd R (K x))(h2:g=false->Yd R (K d)):Yd R (Trn.iJ g d e K):=by
 cases g
 ·exact h2 rfl
 ·obtain⟨x,rfl,h⟩:=h1 rfl;exact h
def Yd.jn{α ρ:Type}{R:ρ->Prop}(I:α->Prop){K:α->av8 ρ}{E:(α->av8 ρ)->av8 ρ}(hK:∀s,I s->Yd R (K s))(hE:∀k,(∀s,I s->Yd R (k s))->Yd R (E k)):Yd R (Trn.jn K E):=hE K hK
def Yd.lp{σ ρ:Type}{R:ρ->Prop}{B:(σ->av8 ρ)->σ->av8 ρ}(I:σ->Prop)(μ:σ->Nat)(h:∀next s,I s->(∀s',I s'->μ s'<μ s->Yd R (next s'))->Yd R (B next s)):∀(F:Nat) (s:σ),I s->μ s<F->Yd R (Trn.lp F B s)
 |0,s,_,h=>by omega
 |F+1,s,hi,hm=>h _ s hi fun s' hi' Z7=>Yd.lp I μ h F s' hi' (by omega)
def Yd.imp{S:ρ->Prop}{o:av8 ρ}(h:Yd R o)(k:∀r,R r->S r):Yd S o:=by
 obtain⟨r,e,hr⟩:=h;exact⟨r,e,k r hr⟩
def aM{n:Int}(h:Bh n):aL n=some n:=by
 unfold Bh at h;unfold aL yA;rw[aW h.1,aW h.2]
 rfl
def CC{i:Int}(h0:0<=i)(h1:i<l.length):bo l i=some (l.getD i.toNat 0):=by
 obtain⟨n,rfl⟩:=gL h0;have h:n<l.length:=by omega
 show l[n]? =_;simp[h]
def bJ(h:n<l.length):bo l (n:Int)=some (l.getD n 0):=by
 show l[n]? =_;simp[h]
def HG{b:Nat}{n:Int}{z:α}(h0:0<=n)(h1:b*n<=140737488355328)(hb:1<=b):XK b n z=some (List.replicate n.toNat z):=by
 obtain⟨m,rfl⟩:=gL h0;have h2:(m:Int)<=(b:Int)*m:=by
  have:m*1<=m*b:=E2 _ hb;have:m<=b*m:=by rw[qJ b m];omega
  exact_mod_cast this
 unfold XK;rw[aW h0,aW (show((m:Int)<=9223372036854775807) by omega),aW h1]
 rfl
def im{l:att α}{lo hi:Int}(h0:0<=lo)(h1:lo<=hi)(h2:hi<=l.length):iq l lo hi=some ((l.take hi.toNat).drop lo.toNat):=by
 unfold iq;rw[aW h0,aW h1,aW h2]
 rfl
def ait{k:IntKind}(h:0<=y):Hb k x y=some (x.fdiv<|2^(min y.toNat k.bits)):=by
 unfold Hb;rw[bC (by omega)]
 rfl
def aiu{k:IntKind}(h:0<=y):Hd k x y=some (k.wrap<|x*2^(min y.toNat k.bits)):=by
 unfold Hd;rw[bC (by omega)]
 rfl
abbrev BB:Int:=18446744073709551616
def gX(n:Nat):Int:=BB^n
def DL:gX 0=1:=rfl
def jA(n:Nat):gX (n+1)=BB*gX n:=by unfold gX;rw[Int.pow_succ,Int.mul_comm]
def o5:∀n,0<gX n
 |0=>by rw[DL];omega
 |n+1=>by rw[jA];have:=o5 n;unfold BB;omega
def K7(m n:Nat):gX (m+n)=gX m*gX n:=by unfold gX;rw[Int.pow_add]
def mK(x:Int)(l:att Int):aO (x::l)=x+BB*aO l:=rfl
def tM:∀(l m:att Int),aO (l++m)=aO l+gX l.length*aO m
 |[],m=>by simp[aO,DL]
 |x::l,m=>by
  rw[Ax,mK,mK,tM l m,List.length_cons,jA,bt,eP];omega
def Hz:okW []:=by intro x h;cases h
def sy:okW (x::l)↔(0<=x/\x<BB)/\okW l:=by
 unfold okW;simp only[aY,forall_eq_or_imp]
def M5{m:att Int}:okW (l++m)↔okW l/\okW m:=by
 unfold okW;constructor
 ·exact fun h=>⟨fun x hx=>h x<|pd _ hx,fun x hx=>h x<|AD _ hx⟩
 ·rintro⟨h1,h2⟩ x hx;rcases bN.1 hx with h|h
  ·exact h1 x h
  ·exact h2 x h
def mV(h:okW l)(n:Nat):okW (l.take n):=fun x hx=>h x<|zx hx
def xm(h:okW l)(n:Nat):okW (l.drop n):=fun x hx=>h x<|yx hx
def fg(h:okW l)(n:Nat):0<=l.getD n 0/\l.getD n 0<BB:=by
 by_cases hn:n<l.length
 ·have:l.getD n 0=l[n]:=by simp[iy,hn]
  rw[this];exact h _<|rY hn
 ·have:l.getD n 0=0:=by simp[iy,hn]
  rw[this];unfold BB;omega
def pL(n:Nat):okW (List.replicate n 0):=fun x hx=>by
 rw[(List.mem_replicate.1 hx).2];omega
def mW(h:okW l)(n:Nat)(hx:0<=x/\x<BB):okW (l.set n x):=fun y hy=>by
 rcases List.mem_or_eq_of_mem_set hy with h'|h'
 ·exact h y h'
 ·subst h';exact hx
def yZ:∀n,aO (List.replicate n 0)=0
 |0=>rfl
 |n+1=>by rw[List.replicate_succ,mK,yZ n];omega
def dw:∀{l:att Int},okW l->0<=aO l/\aO l<gX l.length
 |[],_=>by simp[aO,DL]
 |x::l,h=>by
  rw[sy] at h;obtain⟨h1,h2⟩:=dw h.2;rw[mK,List.length_cons,jA];have:=h.1;unfold BB at*;omega
def uz(h:n<l.length):l.take (n+1)=l.take n++[l.getD n 0]:=by
 rw[Lr]
 congr 1
 simp[iy,h]
def qt(h:n<l.length):aO (l.take<|n+1)=aO (l.take n)+gX n*l.getD n 0:=by
 rw[uz h,tM,List.length_take,fW (by omega)];simp[aO]
def qu(l:att Int)(n:Nat)(h:n<=l.length):aO l=aO (l.take n)+gX n*aO (l.drop n):=by
 conv=>lhs;rw[<-zz n l]
 rw[tM,List.length_take,fW h]
def vP:∀{l:att Int},okW l->l≠[]->l.getLast?≠some 0->gX (l.length-1)<=aO l
 |[],_,h,_=>absurd rfl h
 |[x],h,_,hl=>by
  rw[sy] at h;have:x≠0:=fun e=>hl (by rw[e];rfl)
  simp[aO,DL];omega
 |x::y::l,h,_,hl=>by
  rw[sy] at h;have:=vP (l:=y::l) h.2 (by simp) (by simpa using hl);rw[mK,show(x::y::l).length-1=(y::l).length-1+1 from by simp,jA];have:=h.1;unfold BB at*;omega
def Zh(h:n<l.length)(x:Int):l.set n x=l.take n++x::l.drop (n+1):=by
 rw[List.set_eq_take_append_cons_drop,if_pos h]
def dq(h:n<=m)(x:Int):(l.set m x).take n=l.take n:=by
 rw[List.take_set_of_le h]
def getD_set_ne(h:n≠m)(x:Int):(l.set m x).getD n 0=l.getD n 0:=by
 simp[iy,List.getElem?_set_ne<|Ne.symm h]
def dr(h:n<l.length)(x:Int):(l.set n x).getD n 0=x:=by
 simp[iy,h]
def Norm(w:att Int):Prop:=okW w/\w.getLast?≠some 0
def Norm.nil:Norm []:=⟨Hz,by simp⟩
def Norm.len{w:att Int}(h:Norm w)(hv:aO w<gX n):w.length<=n:=by
 by_cases h0:w=[]
 ·subst h0;simp
 ·have h1:=vP h.1 h0 h.2;rcases kQ n w.length with h2|h2
  ·have:gX n<=gX (w.length-1):=by
    obtain⟨k,hk⟩:∃k,w.length-1=n+k:=⟨w.length-1-n,by omega⟩;rw[hk,K7];have a:=o5 n;have b:=o5 k;have:gX n*1<=gX n*gX k:=gM (by omega) (by omega);omega
   omega
  ·exact h2
def eT{a b:Bool}(h:(a&&b)=true):a=true/\b=true:=by
 rw[bY] at h;exact h
def xo(ha:okW a)(hl:a.length<4611686018427387904):Yd (fun w=>Norm w/\aO w=aO a/\w.length<=a.length) (l5 a):=by
 unfold l5;refine Yd.lp (fun s:Int=>0<=s/\s<=a.length/\aO (a.take s.toNat)=aO a) (fun s:Int=>s.toNat) ?_ _ _ ⟨by omega,by omega,by simp⟩ (by simp;omega);rintro next s ⟨h0,h1,h2⟩ hn
 refine Yd.iJ (fun hg=>?_)<|fun hg=>?_
 ·have hs:0<s:=aZ hg;refine⟨s-1,aM ⟨by omega,by omega⟩,Yd.iJ (fun _=>⟨a.getD (s-1).toNat 0,CC (by omega) (by omega),Yd.cond (fun hc=>?_)<|fun hc=>?_⟩) (fun h=>by rw[hg] at h;cases h)⟩
  ·obtain⟨_,hz⟩:=eT hc;have hz:=aZ hz;refine Yd.bd (aM ⟨by omega,by omega⟩) (hn _ ⟨by omega,by omega,?_⟩ (by omega));have e:s.toNat=(s-1).toNat+1:=by omega
   rw[e,qt (by omega),hz,Aj,EM] at h2;exact h2
  ·refine Yd.bd (im (by omega) h0 h1) (Yd.mk ⟨⟨mV ha _,?_⟩,h2,by simp;omega⟩);rw[aW hs,rQ] at hc;have hz:=br hc;have e:s.toNat=(s-1).toNat+1:=by omega
   show(a.take s.toNat).getLast?≠some 0;rw[e,uz (by omega)];simpa using hz
 ·have hs: ¬0<s:=br hg;have hs:s=0:=by omega
  subst hs;refine Yd.iJ (fun h=>by rw[hg] at h;cases h) (fun _=>Yd.cond (fun hc=>by simp at hc) (fun _=>Yd.bd (im (by omega) (by omega) h1) (Yd.mk ⟨by simpa using Norm.nil,by simpa using h2,by simp⟩)))
def Rl(ha:okW a)(hb:okW b)(hla:a.length<4398046511104)(Z9:b.length<4398046511104):Yd (fun w=>Norm w/\aO w=aO a+aO b) (qH a b):=by
 unfold qH;refine Yd.jn (fun s:att Int×att Int=>okW s.1/\okW s.2/\s.2.length<=s.1.length/\s.1.length<4398046511104/\aO s.1+aO s.2=aO a+aO b) ?_ fun k hk=>Yd.cond (fun hc=>?_)<|fun hc=>?_
 rotate_left
 ·have hc:=aZ hc;exact hk (b,a) ⟨hb,ha,by dsimp only;omega,Z9,by dsimp only;omega⟩
 ·have hc:=br hc;exact hk (a,b) ⟨ha,hb,by dsimp only;omega,hla,rfl⟩
 rintro⟨x,y⟩ ⟨hx,hy,hl,hlx,hv⟩;simp only at hx hy hl hlx hv⊢;rw[<-hv];refine Yd.bd (aM ⟨by omega,by omega⟩) (Yd.bd (HG (by omega) (by omega) (by omega)) ?_);refine Yd.lp (fun s:att Int×Int×Int=>okW s.1/\s.1.length=x.length+1/\(s.2.1=0\/s.2.1=1)/\0<=s.2.2/\s.2.2<=x.length/\aO (s.1.take s.2.2.toNat)+gX s.2.2.toNat*s.2.1=aO (x.take s.2.2.toNat)+aO (y.take s.2.2.toNat))
  (fun s:att Int×Int×Int=>x.length-s.2.2.toNat) ?_ _ _ ⟨pL _,by simp only[xI];omega,.inl rfl,by dsimp only;omega,by dsimp only;omega,by simp[aO]⟩ (by dsimp only;omega)
 rintro next ⟨o,c,i⟩ ⟨h1,h2,h3,h4,h5,h6⟩ hn
 simp only at h1 h2 h3 h4 h5 h6 hn⊢;obtain⟨n,rfl⟩:=gL h4;simp only[Int.toNat_natCast,u6] at*;refine Yd.cond (fun hc=>?_)<|fun hc=>?_
 ·have hc:=aZ hc;refine Yd.jn (fun v=>v=y.getD n 0) ?_ fun k hk=>Yd.cond (fun hd=>?_)<|fun hd=>?_
  ·rintro v rfl;obtain⟨p1,p2⟩:=fg hx n;obtain⟨q1,q2⟩:=fg hy n;refine Yd.bd (CC (by omega) (by omega)) ?_;simp only[Int.toNat_natCast]
   generalize hX:x.getD n 0=X at*
   generalize hY:y.getD n 0=Y at*
   have acO:o7 X Y c=some ((X+Y+c)%BB,(X+Y+c)/BB):=by
    unfold o7 xr;rw[aW p1,aW p2,aW q1,aW q2];rcases h3 with rfl|rfl<;>rfl
   refine Yd.bd acO (Yd.bd (CC (by omega) (by omega)) (Yd.bd (CC (by omega) (by omega)) (Yd.bd (aM ⟨by omega,by omega⟩) ?_)));have hdm:=zy (X+Y+c) BB;have Uf:0<=(X+Y+c)%BB:=tG _ (by unfold BB;omega);have hr1:(X+Y+c)%BB<BB:=r8 _ (by unfold BB;omega);have hq:(X+Y+c)/BB=0\/(X+Y+c)/BB=1:=by unfold BB at*;rcases h3 with rfl|rfl<;>omega
   refine hn _ ⟨mW h1 _ ⟨Uf,hr1⟩,by simpa using h2,hq,by dsimp only;omega,by dsimp only;omega,?_⟩ (by dsimp only;omega);have e:(((n:Nat):Int)+1).toNat=n+1:=by omega
   simp only[e,Int.toNat_natCast];rw[qt (by simpa using by omega),dq<|bp _,dr (by omega),qt (by omega),hX,jA];have hy':aO (y.take<|n+1)=aO (y.take n)+gX n*Y:=by
    rcases kQ n y.length with h|h
    ·rw[qt h,hY]
    ·have:Y=0:=by rw[<-hY];simp[iy,h]
     rw[this,eF (by omega),eF h];omega
   rw[hy'];have key:gX n*((X+Y+c)%BB)+BB*gX n*((X+Y+c)/BB)=gX n*(X+Y+c):=by
    conv=>rhs;rw[<-hdm]
    rw[bt,Int.mul_comm BB<|gX n,eP]
   have k2:gX n*(X+Y+c)=gX n*X+gX n*Y+gX n*c:=by rw[bt,bt]
   omega
  ·have hd:=aZ hd;exact Yd.bd (CC (by omega) hd) (hk _ (by simp))
  ·have hd:=br hd;exact hk _ (by simp[iy];rw[E4 (by omega)];rfl)
 ·have hc:=br hc;have Kf:n=x.length:=by omega
  subst Kf;refine Yd.bd (CC (by omega) (by omega)) (Yd.bd (CC (by omega) (by omega)) ?_);have AF:0<=c/\c<BB:=by unfold BB;omega
  refine Yd.iG (xo (mW h1 x.length AF) (by simp;omega)) fun w ⟨w1,w2,_⟩=>Yd.mk ⟨w1,?_⟩
  have e1:=qu (o.set x.length c) x.length (by rw[pU];omega);have e2:(o.set x.length c).drop x.length=[c]:=by
   rw[Zh (by omega),vh,xJ (by rw[List.length_take];omega)];have:(o.drop<|x.length+1)=[]:=xJ (by omega);rw[this,List.length_take,fW (by omega)];simp
  rw[e2,dq<|bp _] at e1;rw[eF (l:=x) (by omega),eF (l:=y) (by omega)] at h6;rw[show aO [c]=c from by simp[aO]] at e1;omega
def Xk(h:n<l.length):aO l=aO (l.take n)+gX n*(l.getD n 0+BB*aO (l.drop<|n+1)):=by
 rw[qu l n (by omega)]
 congr 2
 rw[D7 h,mK]
 congr 1
 simp[iy,h]
def Hn(h:m<=n):gX m<=gX n:=by
 obtain⟨k,rfl⟩:∃k,n=m+k:=⟨n-m,by omega⟩;rw[K7];have a:=o5 m;have b:=o5 k;have:gX m*1<=gX m*gX k:=gM (by omega) (by omega);omega
def yY(ha:okW a)(hb:Norm b)(h:a.length<b.length):aO a<aO b:=by
 have h1:=(dw ha).2;have h2:=vP hb.1 (by intro e;subst e;simp at h) hb.2;have h3:=Hn (show a.length<=b.length-1 by omega);omega
def BD(ha:Norm a)(hb:Norm b)(hla:a.length<4398046511104)(Z9:b.length<4398046511104):
  Yd (fun r=>(r= -1/\aO a<aO b)\/(r=0/\aO a=aO b)\/(r=1/\aO b<aO a)) (l6 a b):=by
 unfold l6;refine Yd.cond (fun hc=>Yd.cond (fun hd=>?_)<|fun hd=>?_)<|fun hc=>?_
 ·have hd:=aZ hd;exact Yd.mk (.inl ⟨rfl,yY ha.1 hb (by omega)⟩)
 ·have hd:=br hd;rw[jl,me] at hc;exact Yd.mk (.inr (.inr ⟨rfl,yY hb.1 ha (by omega)⟩))
 ·rw[Ib,jc] at hc;have hl:a.length=b.length:=by omega
  refine Yd.bd (aM ⟨by omega,by omega⟩) ?_;refine Yd.lp (fun s:Int=> -1<=s/\s<a.length/\a.drop (s+1).toNat=b.drop (s+1).toNat) (fun s:Int=>(s+1).toNat) ?_ _ _ ⟨by omega,by omega,?_⟩ (by omega)
  ·rintro next s ⟨h0,h1,h2⟩ hn
   refine Yd.cond (fun hp=>?_)<|fun hp=>?_
   ·have hp:=aZ hp;obtain⟨n,rfl⟩:=gL hp;have en:(((n:Nat):Int)+1).toNat=n+1:=by omega
    rw[en] at h2;refine Yd.bd (bJ (by omega)) (Yd.bd (bJ (by omega)) ?_);have eA:=Xk (l:=a) (n:=n) (by omega);have eB:=Xk (l:=b) (n:=n) (by omega);rw[h2] at eA;obtain⟨tA0,tA⟩:=dw<|mV ha.1 n
    obtain⟨tB0,tB⟩:=dw<|mV hb.1 n
    rw[List.length_take,fW (by omega)] at tA tB;have hpw:=o5 n;have gA:bo a (n:Int)=some (a.getD n 0):=bJ (by omega);have gB:bo b (n:Int)=some (b.getD n 0):=bJ (by omega);have dA:a.drop n=a.getD n 0::a.drop (n+1):=by
     rw[D7 (show n<a.length by omega)]
     congr 1
     simp[iy,show n<a.length by omega]
    have dB:b.drop n=b.getD n 0::b.drop (n+1):=by
     rw[D7 (show n<b.length by omega)]
     congr 1
     simp[iy,show n<b.length by omega]
    generalize a.getD n 0=X at*
    generalize b.getD n 0=Y at*
    have eA':aO a=aO (a.take n)+gX n*X+gX n*(BB*aO (b.drop<|n+1)):=by rw[eA,bt];omega
    have eB':aO b=aO (b.take n)+gX n*Y+gX n*(BB*aO (b.drop<|n+1)):=by rw[eB,bt];omega
    refine Yd.cond (fun hx=>?_)<|fun hx=>?_
    ·rw[jl,me] at hx;refine Yd.bd gA<|Yd.bd gB<|Yd.cond (fun hlt=>?_)<|fun hlt=>?_
     ·have hlt:=aZ hlt;have:gX n*(X+1)<=gX n*Y:=gM (by omega) (by omega);rw[bt,ni] at this;exact Yd.mk (.inl ⟨rfl,by omega⟩)
     ·have hlt:=br hlt;have:gX n*(Y+1)<=gX n*X:=gM (by omega) (by omega);rw[bt,ni] at this;exact Yd.mk (.inr (.inr ⟨rfl,by omega⟩))
    ·rw[Ib,jc] at hx;refine Yd.bd (aM ⟨by omega,by omega⟩) (hn _ ⟨by omega,by omega,?_⟩ (by omega));have:(((n:Nat):Int)-1+1).toNat=n:=by omega
     rw[this,dA,dB,hx,h2]
   ·have hp:=br hp;have:s= -1:=by omega
    subst this;exact Yd.mk (.inr (.inl ⟨rfl,by simpa using congrArg aO h2⟩))
  ·have:((a.length:Int)-1+1).toNat=a.length:=by omega
   rw[this,Au,hl,Au]
def QI{c:Int}(hx:0<=X/\X<BB)(hy:0<=Y/\Y<BB)(hc:c=0\/c=1):∃r d:Int,Ah X Y c=some (r,d)/\0<=r/\r<BB/\(d=0\/d=1)/\X-Y-c=r-BB*d:=by
 have h:Ah X Y c=some ((X-Y-c)%G1,bif decide (X<Y+c) then 1 else 0):=by
  unfold Ah xr;rw[aW hx.1,aW hx.2,aW hy.1,aW hy.2];rcases hc with rfl|rfl<;>rfl
 refine⟨_,_,h,tG _ (by unfold G1;omega),r8 _ (by unfold G1;omega),?_,?_⟩
 ·cases decide (X<Y+c)<;>simp
 ·unfold G1 BB at*;by_cases h:X<Y+c
  ·rw[aW h];simp only[bD];omega
  ·rw[bC h];simp only[a8];omega
def Fh{c:Int}(hx:0<=X/\X<BB)(hy:0<=Y/\Y<BB)(hc:c=0\/c=1):∃r d:Int,o7 X Y c=some (r,d)/\0<=r/\r<BB/\(d=0\/d=1)/\X+Y+c=r+BB*d:=by
 have h:o7 X Y c=some ((X+Y+c)%G1,(X+Y+c)/G1):=by
  unfold o7 xr;rw[aW hx.1,aW hx.2,aW hy.1,aW hy.2];rcases hc with rfl|rfl<;>rfl
 refine⟨_,_,h,tG _ (by unfold G1;omega),r8 _ (by unfold G1;omega),?_,?_⟩
 ·unfold G1 BB at*;omega
 ·have:=zy (X+Y+c) G1;unfold G1 BB at*;omega
def Lh(hx:0<=X/\X<BB)(hy:0<=Y/\Y<BB):∃hi lo:Int,yo X Y=some (hi,lo)/\0<=hi/\hi<=BB-2/\0<=lo/\lo<BB/\X*Y=lo+BB*hi:=by
 have h:yo X Y=some (X*Y/G1,X*Y%G1):=by
  unfold yo xr;rw[aW hx.1,aW hx.2,aW hy.1,aW hy.2]
  rfl
 have h1:=zy (X*Y) G1;have h2:0<=X*Y:=rU hx.1 hy.1;have h3:X*Y<=(BB-1)*(BB-1):=wT (by omega) (by omega) hy.1 (by unfold BB;omega);have h4:0<=X*Y%G1:=tG _ (by unfold G1;omega);have h5:X*Y%G1<G1:=r8 _ (by unfold G1;omega);refine⟨_,_,h,?_,?_,h4,h5,?_⟩
 ·exact rV h2 (by unfold G1;omega)
 ·generalize X*Y/G1=q at*
  generalize X*Y%G1=r at*
  generalize X*Y=p at*
  unfold G1 BB at*;omega
 ·unfold G1 BB at*;omega
def AG(h:l.length<=n):l.getD n 0=0:=by simp[iy,h]
def bm(l:att Int)(n:Nat):aO (l.take<|n+1)=aO (l.take n)+gX n*l.getD n 0:=by
 rcases kQ n l.length with h|h
 ·exact qt h
 ·rw[AG h,eF (by omega),eF h];omega
def HE(ha:okW a)(hb:okW b)(hl:b.length<=a.length)(hla:a.length<4398046511104)(hv:aO b<=aO a):Yd (fun w=>Norm w/\aO w=aO a-aO b) (qG a b):=by
 unfold qG;refine Yd.bd (HG (by omega) (by omega) (by omega)) ?_;refine Yd.lp (fun s:att Int×Int×Int=>okW s.1/\s.1.length=a.length/\(s.2.1=0\/s.2.1=1)/\0<=s.2.2/\s.2.2<=a.length/\aO (s.1.take s.2.2.toNat)=aO (a.take s.2.2.toNat)-aO (b.take s.2.2.toNat)+gX s.2.2.toNat*s.2.1)
  (fun s:att Int×Int×Int=>a.length-s.2.2.toNat) ?_ _ _ ⟨pL _,by simp only[xI];omega,.inl rfl,by dsimp only;omega,by dsimp only;omega,by simp[aO]⟩ (by dsimp only;omega)
 rintro next ⟨o,c,i⟩ ⟨h1,h2,h3,h4,h5,h6⟩ hn
 simp only at h1 h2 h3 h4 h5 h6 hn⊢;obtain⟨n,rfl⟩:=gL h4;simp only[Int.toNat_natCast,u6] at*;refine Yd.cond (fun hc=>?_)<|fun hc=>?_
 ·have hc:=aZ hc;refine Yd.jn (fun v=>v=b.getD n 0) ?_ fun k hk=>Yd.cond (fun hd=>?_)<|fun hd=>?_
  ·rintro v rfl;obtain⟨r,d,e1,e2,e3,e4,e5⟩:=QI (fg ha n) (fg hb n) h3;refine Yd.bd (bJ (by omega)) (Yd.bd e1 (Yd.bd (bJ (by omega)) (Yd.bd (bJ (by omega)) (Yd.bd (aM ⟨by omega,by omega⟩) ?_))));refine hn _ ⟨mW h1 _ ⟨e2,e3⟩,by simpa using h2,e4,by dsimp only;omega,by dsimp only;omega,?_⟩ (by dsimp only;omega);have e:(((n:Nat):Int)+1).toNat=n+1:=by omega
   simp only[e,Int.toNat_natCast];rw[bm,dq<|bp _,dr (by omega),bm a,bm b,jA]
   generalize a.getD n 0=X at*
   generalize b.getD n 0=Y at*
   have key:gX n*(X-Y-c)=gX n*r-BB*gX n*d:=by rw[e5,mE,<-eP,Int.mul_comm (gX n) BB]
   have k2:gX n*(X-Y-c)=gX n*X-gX n*Y-gX n*c:=by rw[mE,mE]
   omega
  ·have hd:=aZ hd;exact Yd.bd (bJ (by omega))<|hk _ rfl
  ·have hd:=br hd;exact hk _ (by rw[AG (by omega)])
 ·have hc:=br hc;have Kf:n=a.length:=by omega
  subst Kf;refine Yd.iG (xo h1 (by omega)) fun w ⟨w1,w2,_⟩=>Yd.mk ⟨w1,?_⟩
  rw[w2];rw[eF (l:=o) (by omega),eF (l:=a) (by omega),eF (l:=b) (by omega)] at h6;have ju:=(dw h1).2;rw[h2] at ju;have hp:=o5 a.length;rcases h3 with rfl|rfl
  ·omega
  ·omega
def Mt(h:aO (l.drop n)=0)(hk:okW l)(hm:n<=m):l.getD m 0=0:=by
 have key:∀(l:att Int) (j:Nat),okW l->aO l=0->l.getD j 0=0:=by
  intro l
  induction l with
  |nil=>intro j _ _;simp
  |cons x l ih=>
   intro j hk hv;rw[sy] at hk;rw[mK] at hv;have h1:=(dw hk.2).1;have hx:=hk.1;unfold BB at*;cases j with
   |zero=>simp;omega
   |succ j=>simpa using ih j hk.2 (by omega)
 have:=key (l.drop n) (m-n) (xm hk n) h;simpa[iy,wW,show n+(m-n)=m by omega] using this
def Rj(ha:okW a)(hb:okW b)(hla:a.length<2199023255552)(Z9:b.length<2199023255552):Yd (fun w=>Norm w/\aO w=aO a*aO b) (uV a b):=by
 unfold uV;refine Yd.bd (aM ⟨by omega,by omega⟩) (Yd.bd (HG (by omega) (by omega) (by omega)) ?_);refine Yd.lp (fun s:att Int×Int=>okW s.1/\s.1.length=a.length+b.length/\0<=s.2/\s.2<=a.length/\aO (s.1.take<|s.2.toNat+b.length)=aO (a.take s.2.toNat)*aO b)
  (fun s:att Int×Int=>a.length-s.2.toNat) ?_ _ _ ⟨pL _,by simp only[xI];omega,by dsimp only;omega,by dsimp only;omega,?_⟩ (by dsimp only;omega)
 rotate_left
 ·dsimp only;rw[Ic,yZ];simp[aO]
 rintro next ⟨o,i⟩ ⟨h1,h2,h3,h4,h5⟩ hn
 simp only at h1 h2 h3 h4 h5 hn⊢;obtain⟨n,rfl⟩:=gL h3;simp only[Int.toNat_natCast,u6] at*;refine Yd.cond (fun hc=>?_)<|fun hc=>?_
 ·have hc:=aZ hc;refine Yd.bd (bJ (by omega)) ?_;refine Yd.lp (fun s:att Int×Int×Int=>okW s.1/\s.1.length=a.length+b.length/\(0<=s.2.1/\s.2.1<BB)/\0<=s.2.2/\s.2.2<=b.length/\s.1.drop (n+s.2.2.toNat)=o.drop (n+s.2.2.toNat)/\
    aO (s.1.take<|n+s.2.2.toNat)+gX (n+s.2.2.toNat)*s.2.1=aO (o.take<|n+s.2.2.toNat)+gX n*(a.getD n 0*aO (b.take s.2.2.toNat)))
   (fun s:att Int×Int×Int=>b.length-s.2.2.toNat) ?_ _ _ ⟨h1,h2,⟨by dsimp only;omega,by dsimp only;unfold BB;omega⟩,by dsimp only;omega,by dsimp only;omega,rfl,by simp[aO]⟩ (by dsimp only;omega)
  rintro xp ⟨p,c,j⟩ ⟨g1,g2,g3,g4,g5,g6,g7⟩ P2;simp only at g1 g2 g3 g4 g5 g6 g7 P2⊢;obtain⟨m,rfl⟩:=gL g4;simp only[Int.toNat_natCast,u6] at*;have eo:p.getD (n+m) 0=o.getD (n+m) 0:=by
   have:=congrArg (fun l=>l.getD 0 0) g6;simpa[iy,wW] using this
  refine Yd.cond (fun hd=>?_)<|fun hd=>?_
  ·have hd:=aZ hd;obtain⟨hi,lo,m1,m2,m3,m4,m5,m6⟩:=Lh (fg ha n)<|fg hb m
   obtain⟨r1,d1,a1,a2,a3,a4,a5⟩:=Fh (X:=lo) (Y:=p.getD (n+m) 0) (c:=0) ⟨m4,m5⟩ (fg g1 _)<| .inl rfl
   obtain⟨r2,d2,b1,b2,b3,b4,b5⟩:=Fh (X:=r1) (Y:=c) (c:=0) ⟨a2,a3⟩ g3<| .inl rfl
   have enm:((n:Nat):Int)+((m:Nat):Int)=((n+m:Nat):Int):=by omega
   rw[enm];refine Yd.bd (bJ (by omega)) (Yd.bd m1 (Yd.bd (aM ⟨by omega,by omega⟩) (Yd.bd (bJ (by omega)) (Yd.bd (bJ (by omega)) (Yd.bd a1 (Yd.bd b1 (Yd.bd (aM ⟨by omega,by omega⟩) (Yd.bd (bJ (by omega)) (Yd.bd (bJ (by omega)) (Yd.bd (aM ⟨by omega,by omega⟩) ?_))))))))));obtain⟨xa,xb⟩:=fg ha n;obtain⟨ya,yb⟩:=fg hb m;obtain⟨oa,ob⟩:=fg g1<|n+m
   have Jt:a.getD n 0*b.getD m 0<=(BB-1)*(BB-1):=wT (by omega) (by omega) ya (by unfold BB;omega);have hD:BB*(hi+d1+d2)=a.getD n 0*b.getD m 0+p.getD (n+m) 0+c-r2:=by unfold BB at*;omega
   have hlt:hi+d1+d2<BB:=by
    generalize a.getD n 0*b.getD m 0=q at*
    unfold BB at*;omega
   have hw:wr .u64 (wr .u64 (hi+d1)+d2)=hi+d1+d2:=by
    have e1:wr .u64 (hi+d1)=hi+d1:=wrap_u64 ⟨by omega,by unfold BB at*;omega⟩;rw[e1];exact wrap_u64 ⟨by omega,by unfold BB at*;omega⟩
   dsimp only;rw[hw];refine P2 _ ⟨mW g1 _ ⟨b2,b3⟩,by simpa using g2,⟨by dsimp only;omega,hlt⟩,by dsimp only;omega,by dsimp only;omega,?_,?_⟩ (by dsimp only;omega)
   ·have e:(((m:Nat):Int)+1).toNat=m+1:=by omega
    simp only[e,Int.toNat_natCast];rw[LG (by omega),<-rR];have:=congrArg (List.drop 1) g6;rwa [iS,iS] at this
   ·have e:(((m:Nat):Int)+1).toNat=m+1:=by omega
    simp only[e,Int.toNat_natCast];rw[<-rR,bm,dq<|bp _,dr (by omega),bm o,bm b,<-eo,jA];have k1:gX n*(a.getD n 0*(aO (b.take m)+gX m*b.getD m 0))=gX n*(a.getD n 0*aO (b.take m))+gX (n+m)*(a.getD n 0*b.getD m 0):=by
     rw[bt,bt,K7,iT (a.getD n 0)<|gX m,eP]
    have k2:gX (n+m)*r2+BB*gX (n+m)*(hi+d1+d2)=gX (n+m)*(a.getD n 0*b.getD m 0)+gX (n+m)*p.getD (n+m) 0+gX (n+m)*c:=by
     rw[Int.mul_comm BB,eP,<-bt,<-bt,<-bt]
     congr 1;omega
    rw[k1];omega
  ·have hd:=br hd;have Z7:m=b.length:=by omega
   subst Z7;have enm:((n:Nat):Int)+((b.length:Nat):Int)=((n+b.length:Nat):Int):=by omega
   rw[enm];refine Yd.bd (aM ⟨by omega,by omega⟩) (Yd.bd (bJ (by omega)) (Yd.bd (bJ (by omega)) (Yd.bd (aM ⟨by omega,by omega⟩) ?_)));refine hn _ ⟨mW g1 _ g3,by simpa using g2,by dsimp only;omega,by dsimp only;omega,?_⟩ (by dsimp only;omega);have e:(((n:Nat):Int)+1).toNat=n+1:=by omega
   simp only[e,Int.toNat_natCast];rw[show n+1+b.length=(n+b.length)+1 from by omega,bm,dq<|bp _,dr (by omega),bm a,kP];rw[eF (l:=b) (by omega),h5] at g7;rw[g7,eP]
 ·have hc:=br hc;have Kf:n=a.length:=by omega
  subst Kf;refine Yd.iG (xo h1 (by omega)) fun w ⟨w1,w2,_⟩=>Yd.mk ⟨w1,?_⟩
  rw[w2];rw[eF (l:=o) (by omega),eF (l:=a) (by omega)] at h5;exact h5
def wrW(n:Int):IntKind.wrap .u64 n=n%BB:=by
 unfold IntKind.wrap
 rfl
def Oq{n:Int}(h:0<=n/\n<BB):IntKind.wrap .u64 n=n:=by rw[wrW,Cw h.1 h.2]
def YE(hx:0<=x)(hy:0<=y)(hs:y<2^s)(hd:x%2^s=0)(hw:x+y<BB):nV .or .u64 x y=x+y:=by
 obtain⟨a,rfl⟩:=gL hx;obtain⟨b,rfl⟩:=gL hy;have ui:b<2^s:=by exact_mod_cast hs
 have hd':a%2^s=0:=by exact_mod_cast hd
 have ho:a|||b=a+b:=by
  have e:a=2^s*(a/2^s):=by have:=Nat.div_add_mod a (2^s);omega
  rw[e,<-Nat.two_pow_add_eq_or_of_lt ui]
 have hb:a+b<2^64:=by unfold BB at hw;omega
 unfold nV;show IntKind.wrap .u64 ((BitVec.ofInt 64 a|||BitVec.ofInt 64 b).toNat:Int)=_;have e1:BitVec.ofInt 64 (a:Int)=BitVec.ofNat 64 a:=LI ..;have e2:BitVec.ofInt 64 (b:Int)=BitVec.ofNat 64 b:=LI ..;rw[e1,e2,BitVec.toNat_or,LD,LD,Av (by omega),Av (by omega),ho];exact Oq ⟨by omega,by omega⟩
def UW(hx:0<=x/\x<BB):nV .and .u64 x 4294967295=x%4294967296:=by
 obtain⟨a,rfl⟩:=gL hx.1;have hb:a<2^64:=by have:=hx.2;unfold BB at this;omega
 unfold nV;show IntKind.wrap .u64 ((BitVec.ofInt 64 a&&&BitVec.ofInt 64 ((4294967295:Nat):Int)).toNat:Int)=_;have e1:BitVec.ofInt 64 (a:Int)=BitVec.ofNat 64 a:=LI ..;have e2:BitVec.ofInt 64 ((4294967295:Nat):Int)=BitVec.ofNat 64 4294967295:=LI ..;rw[e1,e2,BitVec.toNat_and,LD,LD,Av hb,Av (by omega),show 4294967295=2^32-1 from rfl,Nat.and_two_pow_sub_one_eq_mod];have:a%2^32<2^32:=te _ (by omega);rw[Oq ⟨by omega,by unfold BB;omega⟩];omega
def ae6(hs:s<=64):Hb .u64 x (s:Int)=some (x/2^s):=by
 rw[ait (by omega)]
 congr 1
 rw[Int.toNat_natCast,fW<|show s<=IntKind.bits .u64 from hs];exact Im _ (fU (Int.pow_pos (by omega)))
def ae7(hs:s<=64):Hd .u64 x (s:Int)=some (x*2^s%BB):=by
 rw[aiu (by omega)]
 congr 1
 rw[Int.toNat_natCast,fW<|show s<=IntKind.bits .u64 from hs,wrW]
def sr(h:s<=64):(2:Int)^s*2^(64-s)=BB:=by
 rw[<-Int.pow_add,show s+(64-s)=64 from by omega];rfl
def two_pos(s:Nat):(0:Int)<2^s:=Int.pow_pos (by omega)
def J1(hs:s<=64)(hx:0<=x/\x<BB):
  ∃lo hi:Int,Hd .u64 x (s:Int)=some lo/\Hb .u64 x ((64:Int)-(s:Int))=some hi/\0<=lo/\lo<BB/\0<=hi/\hi<2^s/\lo%2^s=0/\x*2^s=lo+BB*hi:=by
 have e64:((64:Int)-(s:Int))=((64-s:Nat):Int):=by omega
 have h2:=sr hs;have p1:=two_pos s;have p2:=two_pos<|64-s
 have acv:x*2^s=(x%2^(64-s))*2^s+BB*(x/2^(64-s)):=by
  conv=>lhs;rw[<-zy x (2^(64-s))]
  rw[kP,<-h2,LC,Int.mul_comm (2^(64-s))<|2^s]
 have r0:=tG x (show(2:Int)^(64-s)≠0 by omega);have r1:=r8 x p2;have hlt:(x%2^(64-s))*2^s<BB:=by
  rw[<-h2,Int.mul_comm];exact Int.mul_lt_mul_of_pos_left r1 p1
 have Um:0<=(x%2^(64-s))*2^s:=rU r0<|fU p1
 refine⟨(x%2^(64-s))*2^s,x/2^(64-s),?_,?_,Um,hlt,rV hx.1<|fU p2,?_,Int.mul_emod_left _ _,acv⟩
 ·rw[ae7 hs,acv,Int.add_mul_emod_self_left,Cw Um hlt]
 ·rw[e64,ae6 (by omega)]
 ·refine Ie p2 ?_;rw[h2];exact hx.2
structure HS(y1 y0 N d q r:Int):Prop where
 q0:0<=q
 q1:q<=4294967297
 e:q*y1+r=N
 r0:0<=r
 r1:r<4294967296
 up:N*4294967296+d<(q+1)*(y1*4294967296+y0)
structure HQ(y1 y0 N d q:Int):Prop where
 q0:0<=q
 q1:q<4294967296
 lo:q*(y1*4294967296+y0)<=N*4294967296+d
 up:N*4294967296+d<(q+1)*(y1*4294967296+y0)
structure HP(y1 y0 N d:Int):Prop where
 a0:2147483648<=y1
 a1:y1<4294967296
 b0:0<=y0
 b1:y0<4294967296
 n0:0<=N
 n1:N<y1*4294967296+y0
 d0:0<=d
 d1:d<4294967296
def X8(p:HP y1 y0 N d):HS y1 y0 N d (N/y1) (N-N/y1*y1):=by
 obtain⟨a0,a1,b0,b1,n0,n1,d0,d1⟩:=p;have h1:=zy N y1;have h2:=tG N (show y1≠0 by omega);have h3:=r8 N (show 0<y1 by omega);have h4:0<=N/y1:=rV n0 (by omega)
 generalize N/y1=q at*
 generalize N%y1=r at*
 rw[Int.mul_comm y1 q] at h1;refine⟨h4,?_,by omega,by omega,by omega,?_⟩
 ·have:q<=4294967297\/4294967298<=q:=by omega
  rcases this with h|h
  ·exact h
  ·have:4294967298*y1<=q*y1:=u7 h (by omega);omega
 ·have hq:0<=q*y0:=rU h4 b0;rw[kP,bt,<-eP];omega
def ahG(p:HP y1 y0 N d)(h:HS y1 y0 N d q r)(hc: ¬4294967296<=q)(hd: ¬4294967296*r+d<q*y0):HQ y1 y0 N d q:=by
 obtain⟨a0,a1,b0,b1,n0,n1,d0,d1⟩:=p;obtain⟨q0,q1,e,r0,r1,up⟩:=h;refine⟨q0,by omega,?_,up⟩;rw[bt,<-eP];omega
def X6(p:HP y1 y0 N d)(h:HS y1 y0 N d q r)(hc:4294967296<=q\/4294967296*r+d<q*y0):1<=q/\N*4294967296+d<(q-1+1)*(y1*4294967296+y0):=by
 obtain⟨a0,a1,b0,b1,n0,n1,d0,d1⟩:=p;obtain⟨q0,q1,e,r0,r1,up⟩:=h;have e1:q-1+1=q:=by omega
 rw[e1,bt,<-eP];rcases hc with hc|hc
 ·refine⟨by omega,?_⟩;have h1:4294967296*y1<=q*y1:=u7 hc (by omega);have h2:4294967296*y0<=q*y0:=u7 hc (by omega);omega
 ·refine⟨?_,by omega⟩;have:1<=q\/q=0:=by omega
  rcases this with h|h
  ·exact h
  ·subst h;omega
def Ue(p:HP y1 y0 N d)(h:HS y1 y0 N d q r)(hc:4294967296<=q\/4294967296*r+d<q*y0)(hb:4294967296<=r+y1):HQ y1 y0 N d (q-1):=by
 obtain⟨u1,u2⟩:=X6 p h hc;obtain⟨a0,a1,b0,b1,n0,n1,d0,d1⟩:=p;obtain⟨q0,q1,e,r0,r1,up⟩:=h;have hy:(q-1)*y0<=4294967296*y0:=u7 (by omega) b0;have e2:(q-1)*y1=q*y1-y1:=by rw[Int.sub_mul,Int.one_mul]
 have lo:(q-1)*(y1*4294967296+y0)<=N*4294967296+d:=by
  rw[bt,<-eP,e2];omega
 refine⟨by omega,?_,lo,u2⟩;have:q-1<4294967296\/4294967296<=q-1:=by omega
 rcases this with h|h
 ·exact h
 ·have:4294967296*(y1*4294967296+y0)<=(q-1)*(y1*4294967296+y0):=u7 h (by omega);omega
def X7(p:HP y1 y0 N d)(h:HS y1 y0 N d q r)(hc:4294967296<=q\/4294967296*r+d<q*y0)(hb:r+y1<4294967296):HS y1 y0 N d (q-1) (r+y1):=by
 obtain⟨u1,u2⟩:=X6 p h hc;obtain⟨a0,a1,b0,b1,n0,n1,d0,d1⟩:=p;obtain⟨q0,q1,e,r0,r1,up⟩:=h;have e2:(q-1)*y1=q*y1-y1:=by rw[Int.sub_mul,Int.one_mul]
 exact⟨by omega,by omega,by omega,by omega,by omega,u2⟩
def X9(p:HP y1 y0 N d)(h:HS y1 y0 N d q r):
  ((decide<|4294967296<=q)||(decide<|(IntKind.wrap .u64<|(IntKind.wrap .u64<|4294967296*r)+d)<(IntKind.wrap .u64<|q*y0)))=decide (4294967296<=q\/4294967296*r+d<q*y0):=by
 obtain⟨a0,a1,b0,b1,n0,n1,d0,d1⟩:=p;obtain⟨q0,q1,e,r0,r1,up⟩:=h;rw[Oq (n:=4294967296*r) ⟨by omega,by unfold BB;omega⟩,Oq (n:=4294967296*r+d) ⟨by omega,by unfold BB;omega⟩];by_cases hq:4294967296<=q
 ·rw[aW hq,aW<|show _\/_ from .inl hq,EO]
 ·have h1:0<=q*y0:=rU q0 b0;have h2:q*y0<=4294967295*4294967295:=wT (by omega) (by omega) b0 (by omega);rw[Oq (n:=q*y0) ⟨h1,by unfold BB;omega⟩,bC hq,An]
  congr 1
  simp[hq]
def Ya(p:HP y1 y0 N d)(h:HQ y1 y0 N d q)(hy:y=y1*4294967296+y0):
  IntKind.wrap .u64 (IntKind.wrap .u64 (IntKind.wrap .u64 (N*4294967296)+d)-IntKind.wrap .u64 (q*y))=N*4294967296+d-q*y:=by
 obtain⟨a0,a1,b0,b1,n0,n1,d0,d1⟩:=p;obtain⟨q0,q1,lo,up⟩:=h;subst hy;simp only[wrW];rw[kP,Int.one_mul] at up
 generalize q*(y1*4294967296+y0)=Z at*
 unfold BB;omega
def BK(h:n≠0):2^Nat.log2 n<=n/\n<2^(Nat.log2 n+1):=⟨Nat.log2_self_le h,Nat.lt_log2_self⟩
def ab3(h0:0<y)(h1:y<BB):∃s:Nat,Jq y=some (s:Int)/\s<=63/\BB<=2*(y*2^s)/\y*2^s<BB:=by
 obtain⟨n,rfl⟩:=gL<|fU h0
 have hn:n≠0:=by omega
 obtain⟨l1,l2⟩:=BK hn;have hl:Nat.log2 n<=63:=by
  have:Nat.log2 n<64:=by
   rw[yr hn];have:n<18446744073709551616:=by have:=h1;unfold BB at this;omega
   exact this
  omega
 refine⟨63-Nat.log2 n,?_,by omega,?_,?_⟩
 ·unfold Jq xr;rw[aW (show(0:Int)<=(n:Int) by omega),aW<|show((n:Nat):Int)<18446744073709551616 from h1];show some (64-((C4 ((n:Nat):Int).toNat:Nat):Int))=_;have:C4 n=Nat.log2 n+1:=by
   unfold C4;have:Nat.beq n 0=false:=by
    cases hb:Nat.beq n 0 with
    |false=>rfl
    |true=>exact absurd (fL hb) hn
   rw[this];rfl
  rw[Int.toNat_natCast,this]
  congr 1;omega
 ·have e:2^(63-Nat.log2 n)*2^Nat.log2 n=2^63:=by rw[<-qe];congr 1;omega
  have:2^63<=2^(63-Nat.log2 n)*n:=by rw[<-e];exact E2 _ l1
  have h2:(2:Int)^63<=2^(63-Nat.log2 n)*(n:Int):=by exact_mod_cast this
  rw[Int.mul_comm] at h2;unfold BB;omega
 ·have e:2^(63-Nat.log2 n)*2^(Nat.log2 n+1)=2^64:=by rw[<-qe];congr 1;omega
  have:2^(63-Nat.log2 n)*n<2^64:=by rw[<-e];exact Nat.mul_lt_mul_of_pos_left l2<|EV _
  have h2:2^(63-Nat.log2 n)*(n:Int)<(2:Int)^64:=by exact_mod_cast this
  rw[Int.mul_comm] at h2;unfold BB;omega
def NP(hx:0<=x/\x<BB)(hy:0<y):WG .u64 x y=some (x/y):=by
 unfold WG;rw[bC (show¬y=0 by omega)];show some (IntKind.wrap .u64<|x.tdiv y)=_;rw[Int.tdiv_eq_ediv_of_nonneg hx.1,Oq ⟨rV hx.1<|fU hy,Int.lt_of_le_of_lt (As _ hx.1) hx.2⟩]
def yk(hx:0<=x)(hy:0<y):tC x y=some (x%y):=by
 unfold tC;rw[bC (show¬y=0 by omega)];show some (x.tmod y)=_;rw[Int.tmod_eq_emod_of_nonneg hx]
def ahk:Hb .u64 x 32=some (x/4294967296):=ae6 (s:=32) (by omega)
def Qb{hi lo:Int}(Ul:0<=hi/\hi<y)(FX:0<=lo/\lo<BB)(hy:y<BB):
  Yd (fun p=>(0<=p.1/\p.1<BB)/\(0<=p.2/\p.2<y)/\hi*BB+lo=p.1*y+p.2) (ng hi lo y):=by
 unfold ng;dsimp only[wr];refine Yd.cond (fun hc=>absurd (aZ hc) (by omega)) (fun _=>Yd.cond (fun hc=>absurd (aZ hc) (by omega))<|fun _=>Yd.cond (fun h0=>?_)<|fun h0=>?_)
 ·have h0:=aZ h0;subst h0;refine Yd.bd (NP FX Ul.2) (Yd.bd (yk FX.1 Ul.2) (Yd.mk ⟨⟨rV FX.1 (by omega),Int.lt_of_le_of_lt (As _ FX.1) FX.2⟩,⟨tG _ (by omega),r8 _ Ul.2⟩,?_⟩));have:=zy lo y;rw[Int.mul_comm] at this;dsimp only;omega
 ·have h0:=br h0;obtain⟨s,l1,l2,l3,l4⟩:=ab3 (y:=y) (by omega) hy;have ws:IntKind.wrap .u64 (s:Int)=s:=Oq ⟨by omega,by unfold BB;omega⟩;have aof:IntKind.wrap .u64 ((64:Int)-s)=64-s:=Oq ⟨by omega,by unfold BB;omega⟩;have ps:=two_pos s;have hgt:hi*2^s+2^s<=y*2^s:=by
   have:(hi+1)*2^s<=y*2^s:=u7 (by omega)<|fU ps
   rw[kP,Int.one_mul] at this;exact this
  have hn:0<=hi*2^s:=rU Ul.1<|fU ps
  obtain⟨u0,u1,e1,e2,a1,a2,a3,a4,a5,a6⟩:=J1 (x:=lo) (s:=s) (by omega) FX;have eY:Hd .u64 y (s:Int)=some (y*2^s):=by rw[ae7 (by omega),Cw (by omega) l4]
  have eH:Hd .u64 hi (s:Int)=some (hi*2^s):=by rw[ae7 (by omega),Cw hn (by omega)]
  have eO:nV .or .u64 (hi*2^s) u1=hi*2^s+u1:=YE (s:=s) hn a3 a4 (Int.mul_emod_left _ _) (by omega);refine Yd.bd l1 ?_;rw[ws,aof];refine Yd.bd eY<|Yd.bd ahk<|Yd.bd eH<|Yd.bd e2<|Yd.bd e1<|Yd.bd ahk ?_
  rw[eO,UW (x:=u0) ⟨a1,a2⟩,UW (x:=y*2^s) ⟨by omega,l4⟩];have Wl:hi*BB*2^s+lo*2^s=(hi*2^s+u1)*BB+u0:=by
   rw[a6,kP,LC hi BB,Int.mul_comm BB u1];omega
  generalize hYd:y*2^s=Y at*
  generalize hNd:hi*2^s+u1=N at*
  have y1b:2147483648<=Y/4294967296:=by unfold BB at*;omega
  have y1c:Y/4294967296<4294967296:=by unfold BB at*;omega
  have yy:Y=Y/4294967296*4294967296+Y%4294967296:=by omega
  have hP1:HP (Y/4294967296) (Y%4294967296) N (u0/4294967296):=⟨y1b,y1c,by omega,by omega,by omega,by omega,by omega,by unfold BB at*;omega⟩;have hu:u0=u0/4294967296*4294967296+u0%4294967296:=by omega
  have u00:0<=u0%4294967296:=by omega
  have u01:u0%4294967296<4294967296:=by omega
  have hYB:Y<BB:=l4
  generalize Y/4294967296=y1 at*
  generalize Y%4294967296=y0 at*
  generalize u0/4294967296=d1 at*
  generalize u0%4294967296=d0 at*
  have hN:0<=N/\N<BB:=⟨hP1.n0,by omega⟩;refine Yd.bd (NP hN (by omega)) ?_;refine Yd.jn (HQ y1 y0 N d1) ?_ ?_
  ·intro q1 hq1;rw[Ya hP1 hq1 yy];have g1:=hq1.lo;have g2:=hq1.up;rw[<-yy] at g1 g2;rw[kP,Int.one_mul] at g2;have hP2:HP y1 y0 (N*4294967296+d1-q1*Y) d0:=⟨y1b,y1c,hP1.b0,hP1.b1,by omega,by omega,u00,u01⟩
   generalize hM:N*4294967296+d1-q1*Y=M at*
   refine Yd.bd (NP ⟨hP2.n0,by omega⟩ (by omega)) ?_;refine Yd.jn (HQ y1 y0 M d0) ?_ ?_
   ·intro q0 Z4;rw[Ya hP2 Z4 yy];have f1:=Z4.lo;have f2:=Z4.up;rw[<-yy] at f1 f2;rw[kP,Int.one_mul] at f2;have Fu:hi*BB*2^s+lo*2^s=(q1*4294967296+q0)*Y+(M*4294967296+d0-q0*Y):=by
     rw[Wl,kP,LC];unfold BB
     generalize q1*Y=A at*
     generalize q0*Y=B at*
     omega
    generalize hR:M*4294967296+d0-q0*Y=R at*
    have hR0:0<=R:=by omega
    have hR1:R<Y:=by omega
    refine Yd.bd (ae6 (by omega))<|Yd.mk ?_
    have q1a:=hq1.q0;have q1b:=hq1.q1;have q0a:=Z4.q0;have q0b:=Z4.q1;have eq:IntKind.wrap .u64 (IntKind.wrap .u64 (q1*4294967296)+q0)=q1*4294967296+q0:=by
     rw[Oq (n:=q1*4294967296) ⟨by omega,by unfold BB;omega⟩,Oq ⟨by omega,by unfold BB;omega⟩]
    dsimp only;rw[eq];have hdiv:R=2^s*(hi*BB+lo-(q1*4294967296+q0)*y):=by
     rw[<-hYd] at Fu;rw[mE,bt,Int.mul_comm (2^s)<|hi*BB,Int.mul_comm (2^s) lo,Int.mul_comm (2^s)<|_*y,eP _ y];omega
    have hdd:R/2^s=hi*BB+lo-(q1*4294967296+q0)*y:=by
     rw[hdiv,Int.mul_ediv_cancel_left _ (by omega)]
    refine⟨⟨by omega,by unfold BB;omega⟩,⟨rV hR0 (by omega),Ie ps (by rw[hYd];exact hR1)⟩,?_⟩;rw[hdd];omega
   ·intro k hk;have Wm:=X8 hP2;have w1:0<=M/y1:=rV hP2.n0 (by omega);have e1:IntKind.wrap .u64 (M-IntKind.wrap .u64 (M/y1*y1))=M-M/y1*y1:=by
     have:=Wm.e;have:=Wm.r0;have:=Wm.r1;have h1:0<=M/y1*y1:=rU w1 (by omega);rw[Oq (n:=M/y1*y1) ⟨h1,by have:=hP2.n1;omega⟩,Oq ⟨by omega,by unfold BB;omega⟩]
    rw[e1];refine Yd.lp (fun s:Int×Int=>HS y1 y0 M d0 s.2 s.1) (fun s:Int×Int=>s.2.toNat) ?_ _ _ Wm (by have:=Wm.q0;have:=Wm.q1;dsimp only;omega);rintro next ⟨r,q⟩ h acB
    dsimp only at h⊢;rw[X9 hP2 h];have wr1:IntKind.wrap .u64 (r+y1)=r+y1:=Oq ⟨by have:=h.r0;omega,by have:=h.r1;unfold BB;omega⟩;refine Yd.cond (fun hc=>?_)<|fun hc=>?_
    ·have hc:=aZ hc;have hup:=(X6 hP2 h hc).1;have wq:IntKind.wrap .u64 (q-1)=q-1:=Oq ⟨by omega,by have:=h.q1;unfold BB;omega⟩;simp only[wr1,wq];refine Yd.cond (fun hd=>?_)<|fun hd=>?_
     ·exact hk _<|Ue hP2 h hc<|aZ hd
     ·exact acB _ (X7 hP2 h hc (by have:=br hd;omega)) (by dsimp only;omega)
    ·have hc:=br hc;exact hk _<|ahG hP2 h (fun a=>hc<| .inl a)<|fun a=>hc<| .inr a
  ·intro k hk;have Wm:=X8 hP1;have w1:0<=N/y1:=rV hP1.n0 (by omega);have e1:IntKind.wrap .u64 (N-IntKind.wrap .u64 (N/y1*y1))=N-N/y1*y1:=by
    have:=Wm.e;have:=Wm.r0;have:=Wm.r1;have h1:0<=N/y1*y1:=rU w1 (by omega);rw[Oq (n:=N/y1*y1) ⟨h1,by omega⟩,Oq ⟨by omega,by unfold BB;omega⟩]
   rw[e1];refine Yd.lp (fun s:Int×Int=>HS y1 y0 N d1 s.1 s.2) (fun s:Int×Int=>s.1.toNat) ?_ _ _ Wm (by have:=Wm.q0;have:=Wm.q1;dsimp only;omega);rintro next ⟨q,r⟩ h acB
   dsimp only at h⊢;rw[X9 hP1 h];have wr1:IntKind.wrap .u64 (r+y1)=r+y1:=Oq ⟨by have:=h.r0;omega,by have:=h.r1;unfold BB;omega⟩;refine Yd.cond (fun hc=>?_)<|fun hc=>?_
   ·have hc:=aZ hc;have hup:=(X6 hP1 h hc).1;have wq:IntKind.wrap .u64 (q-1)=q-1:=Oq ⟨by omega,by have:=h.q1;unfold BB;omega⟩;simp only[wr1,wq];refine Yd.cond (fun hd=>?_)<|fun hd=>?_
    ·exact hk _<|Ue hP1 h hc<|aZ hd
    ·exact acB _ (X7 hP1 h hc (by have:=br hd;omega)) (by dsimp only;omega)
   ·have hc:=br hc;exact hk _<|ahG hP1 h (fun a=>hc<| .inl a)<|fun a=>hc<| .inr a
def NH:(List.replicate n (0:Int)).getD m 0=0:=by
 rcases kQ m n with h|h
 ·simp[iy,h]
 ·exact AG (by simpa using h)
def TJ{lo:Int}(hs:s<=64)(h:lo%2^s=0)(hl:lo<BB):lo+2^s<=BB:=by
 have e:=zy lo<|2^s
 rw[h] at e;have h2:=sr hs;have p:=two_pos s
 generalize lo/2^s=k at*
 have hk:k<2^(64-s):=by
  rcases(show k<2^(64-s)\/2^(64-s)<=k by omega) with h'|h'
  ·exact h'
  ·have:=gM h' (fU p);omega
 have:=gM (show k+1<=2^(64-s) from hk)<|fU p
 rw[bt,ni] at this;omega
def UU(hx:0<=x)(hy:0<=y)(hs:y<2^s)(hd:x%2^s=0)(hw:x+y<BB):nV .or .u64 y x=x+y:=by
 rw[<-YE hx hy hs hd hw];unfold nV;dsimp only;rw[BitVec.or_comm]
def J6(ha:okW a)(hs:s<=63)(hl:a.length<2199023255552):Yd (fun w=>okW w/\w.length=a.length+1/\aO w=aO a*2^s) (sI a (s:Int)):=by
 unfold sI;refine Yd.bd (aM ⟨by omega,by omega⟩) (Yd.bd (HG (by omega) (by omega) (by omega)) ?_);have ps:=two_pos s;refine Yd.lp (fun t:att Int×Int=>okW t.1/\t.1.length=a.length+1/\0<=t.2/\t.2<=a.length/\t.1.getD t.2.toNat 0<2^s/\(∀m,t.2.toNat<m->t.1.getD m 0=0)/\aO (t.1.take<|t.2.toNat+1)=aO (a.take t.2.toNat)*2^s)
  (fun t:att Int×Int=>a.length-t.2.toNat) ?_ _ _ ⟨pL _,by simp only[xI];omega,by dsimp only;omega,by dsimp only;omega,?_,?_,?_⟩ (by dsimp only;omega)
 rotate_left
 ·dsimp only;rw[NH];exact ps
 ·intro m hm;exact NH
 ·dsimp only;rw[Ic,yZ];simp[aO]
 rintro next ⟨o,i⟩ ⟨h1,h2,h3,h4,h5,h6,h7⟩ hn
 simp only at h1 h2 h3 h4 h5 h6 h7 hn⊢;obtain⟨n,rfl⟩:=gL h3;simp only[Int.toNat_natCast,u6] at*;refine Yd.cond (fun hc=>?_)<|fun hc=>?_
 ·have hc:=aZ hc;refine Yd.jn (fun p:att Int=>okW p/\p.length=a.length+1/\p.getD (n+1) 0<2^s/\(∀m,n+1<m->p.getD m 0=0)/\aO (p.take<|n+2)=aO (a.take<|n+1)*2^s) ?_ ?_
  ·rintro p ⟨g1,g2,g3,g4,g5⟩;refine Yd.bd (aM ⟨by omega,by omega⟩) (hn _ ⟨g1,g2,by dsimp only;omega,by dsimp only;omega,?_⟩ (by dsimp only;omega));have e:(((n:Nat):Int)+1).toNat=n+1:=by omega
   simp only[e];exact⟨g3,g4,g5⟩
  ·intro k hk;obtain⟨lo,hi,b1,b2,b3,b4,b5,b6,b7,b8⟩:=J1 (x:=a.getD n 0) (s:=s) (by omega)<|fg ha n
   have amh:=TJ (by omega) b7 b4;have ho:=fg h1 n;have eor:nV .or .u64 (o.getD n 0) lo=lo+o.getD n 0:=UU b3 ho.1 h5 b7 (by omega);refine Yd.bd (bJ (by omega)) (Yd.bd (bJ (by omega)) (Yd.bd (bJ (by omega)) (Yd.bd b1 (Yd.bd (bJ (by omega)) (Yd.bd (bJ (by omega)) ?_)))));rw[eor];have Ul:hi<BB:=by
    have h2:=sr (s:=s) (by omega);have:=two_pos<|64-s
    have:(2:Int)^s*1<=2^s*2^(64-s):=gM this<|fU ps
    omega
   have acJ:aO (o.take n)+gX n*o.getD n 0=aO (a.take n)*2^s:=by rw[<-h7,bm]
   have Da:aO (o.take n)+gX n*(lo+o.getD n 0)+gX (n+1)*hi=aO (a.take<|n+1)*2^s:=by
    rw[bm a,kP,<-acJ,eP,b8,bt,bt,jA,iT<|gX n,eP BB];omega
   refine Yd.cond (fun hd=>?_)<|fun hd=>?_
   ·have hd:=aZ hd;have e1:((n:Nat):Int)+1=((n+1:Nat):Int):=by omega
    rw[e1];refine Yd.bd (aM ⟨by omega,by omega⟩) (Yd.bd (aM ⟨by omega,by omega⟩)<|Yd.bd b2 ?_);refine Yd.bd (bJ (by rw[pU];omega)) (Yd.bd (bJ (by rw[pU];omega)) ?_);simp only[Int.toNat_natCast];refine hk _ ⟨mW (mW h1 _ ⟨by omega,by omega⟩) _ ⟨b5,Ul⟩,by simpa using h2,?_,?_,?_⟩
    ·rw[dr (by rw[pU];omega)];exact b6
    ·intro m hm;rw[getD_set_ne (by omega),getD_set_ne (by omega)];exact h6 m (by omega)
    ·rw[bm,dq<|bp _,dr (by rw[pU];omega),bm,dq<|bp _,dr (by omega)];exact Da
   ·have hd:=br hd;have Wf:s=0:=by omega
    subst Wf;have apz:hi=0:=by rw[Int.pow_zero] at b6;omega
    subst apz;refine hk _ ⟨mW h1 _ ⟨by omega,by omega⟩,by simpa using h2,?_,?_,?_⟩
    ·rw[getD_set_ne (by omega),h6 _ (by omega)];exact ps
    ·intro m hm;rw[getD_set_ne (by omega)];exact h6 m (by omega)
    ·have e2:(o.set n<|lo+o.getD n 0).getD (n+1) 0=0:=by rw[getD_set_ne (by omega),h6 _ (by omega)]
     rw[bm,e2,bm,dq<|bp _,dr (by omega)];exact Da
 ·have hc:=br hc;have Kf:n=a.length:=by omega
  subst Kf;refine Yd.mk ⟨h1,h2,?_⟩;rw[eF (l:=o) (by omega),eF (l:=a) (by omega)] at h7;exact h7
def XV{m:Int}(hP:0<P)(hU:UL<P)(hV:0<=VL)(hm:0<=m)(h:X+1<=m*Y):UL+P*X<m*(VL+P*Y):=by
 have h1:=gM h<|fU hP
 rw[bt,ni] at h1;have h2:0<=m*VL:=rU hm hV;rw[bt,iT m P Y];omega
def af1(e:q*v1+r=U2)(h:BB*r+u0<q*v0):(u0+BB*U2)+1<=q*(v0+BB*v1):=by
 rw[bt,iT q BB v1,<-e,bt];omega
def af2(e:q*v1+r=U2)(hr:r<v1)(hu:u0<BB)(hq:0<=q)(hv:0<=v0):(u0+BB*U2)+1<=(q+1)*(v0+BB*v1):=by
 rw[bt,iT _ BB v1,<-e,kP q 1 v1,Int.one_mul];have:0<=(q+1)*v0:=rU (by omega) hv;unfold BB at*;omega
def af3{R:Int}(e:q*v1+R=U2)(hq:0<=q/\q<BB)(hR:0<=R)(Nu:0<=v0/\v0<BB)(hu0:0<=u0)(hv1:BB<=2*v1)(h:BB<=R\/q*v0<=BB*R+u0)
 (hP:0<P)(hU:0<=UL)(hV:VL<P)(hV0:0<=VL):(q-1)*(VL+P*(v0+BB*v1))<=UL+P*(u0+BB*U2):=by
 have hY:q*(v0+BB*v1)<=u0+BB*U2:=by
  rw[bt,iT q BB v1,<-e,bt];have:q*v0<=BB*R+u0:=by
   rcases h with h|h
   ·have:q*v0<=(BB-1)*(BB-1):=wT (by omega) (by omega) Nu.1 (by unfold BB;omega);unfold BB at*;omega
   ·exact h
  omega
 have h1:=gM hY<|fU hP
 have h2:q*VL<=BB*P:=wT (by omega) (by omega) hV0 (by unfold BB;omega);have h3:P*BB<=P*(v0+BB*v1):=gM (by unfold BB at*;omega)<|fU hP
 rw[Int.sub_mul,Int.one_mul,bt q,iT q P];rw[Int.mul_comm P BB] at h3;omega
def aiZ{u1 u2:Int}(hP:0<P)(hU:0<=UL)(hu0:0<=u0)(hu1:0<=u1)(hV:VL<P)(Nu:v0<BB)(h:UL+P*(u0+BB*(u1+BB*u2))<BB*(VL+P*(v0+BB*v1))):u2<=v1:=by
 rcases(show v1<u2\/u2<=v1 by omega) with h'|h'
 ·exfalso;have h1:BB*(v0+BB*v1+1)<=u0+BB*(u1+BB*u2):=by unfold BB at*;omega
  have h2:=gM h1<|fU hP
  rw[iT P BB,bt P _ 1,ni] at h2;rw[bt BB VL] at h;rw[bt BB _ P] at h2;have h3:BB*VL<=BB*P:=gM (by omega) (by unfold BB;omega);omega
 ·exact h'
def Y1(h:l.length=k+3):aO l=aO (l.take k)+gX k*(l.getD k 0+BB*(l.getD (k+1) 0+BB*l.getD (k+2) 0)):=by
 have h1:aO (l.take<|k+3)=aO l:=by rw[eF (by omega)]
 rw[<-h1,bm,bm,bm,jA<|k+1,jA,bt,bt,bt,iT (gX k) BB,iT (gX k) BB,iT (gX k) BB,eP,eP,eP];omega
def Y2(h:l.length=k+2):aO l=aO (l.take k)+gX k*(l.getD k 0+BB*l.getD (k+1) 0):=by
 have h1:aO (l.take<|k+2)=aO l:=by rw[eF (by omega)]
 rw[<-h1,bm,bm,jA,bt,iT (gX k) BB,eP];omega
def toNat_succ'(n:Nat):(((n:Nat):Int)+1).toNat=n+1:=by omega
def abT{u v:att Int}(hu:okW u)(hv:okW v)(Wd:u.length=k+3)(Wc:v.length=k+2)(hk:k<2199023255552)(Z2:BB<=2*v.getD (k+1) 0)(hlt:aO u<BB*aO v):
  Yd (fun r=>okW r.1/\r.1.length=k+3/\(0<=r.2/\r.2<BB)/\aO u=r.2*aO v+aO r.1/\aO r.1<aO v) (Cn u v):=by
 unfold Cn;have eU:=Y1 Wd;have eV:=Y2 Wc;obtain⟨bU0,bU1⟩:=dw<|mV hu k
 obtain⟨bV0,bV1⟩:=dw<|mV hv k
 rw[List.length_take,fW (by omega)] at bU1 bV1;have hP:=o5 k;have hu0:=fg hu k;have hu1:=fg hu<|k+1
 have hu2:=fg hu<|k+2
 have Nu:=fg hv k;have hv1:=fg hv<|k+1
 have hVP:0<=aO v:=(dw hv).1;have hU0:0<=aO u:=(dw hu).1;have e1:((v.length:Int)-1)=((k+1:Nat):Int):=by omega
 have e2:((v.length:Int)-2)=((k:Nat):Int):=by omega
 have e0:(v.length:Int)=((k+2:Nat):Int):=by omega
 rw[e1,e2,e0];have gA:∀{l:att Int},l.length=k+3->bo l ((k+2:Nat):Int)=some (l.getD (k+2) 0):=fun h=>bJ (by omega)
 refine Yd.bd (gA Wd) (Yd.bd (gA Wd) (Yd.bd (aM ⟨by omega,by omega⟩) (Yd.bd (bJ (by omega)) ?_)));have hV:aO v<gX (k+2):=by have:=(dw hv).2;rw[Wc] at this;exact this
 refine Yd.jn (fun s:Int×Int×Int=>(0<=s.1/\s.1<BB)/\(0<=s.2.1/\s.2.1<BB)/\(s.2.2=0\/s.2.2=1)/\s.1*v.getD (k+1) 0+(s.2.1+BB*s.2.2)=u.getD (k+1) 0+BB*u.getD (k+2) 0/\aO u<(s.1+1)*aO v) ?_ ?_
 rotate_left
 ·intro Np amb;refine Yd.cond (fun hc=>?_)<|fun hc=>?_
  ·have hc:=aZ hc;obtain⟨r,d,a1,a2,a3,a4,a5⟩:=Fh (X:=u.getD (k+1) 0) (Y:=v.getD (k+1) 0) (c:=0) hu1 hv1<| .inl rfl
   refine Yd.bd (aM ⟨by omega,by omega⟩) (Yd.bd (bJ (by omega)) (Yd.bd (bJ (by omega)) (Yd.bd (aM ⟨by omega,by omega⟩) (Yd.bd (bJ (by omega))<|Yd.bd a1 ?_))));have ahC:u.getD (k+2) 0<=v.getD (k+1) 0:=aiZ hP bU0 hu0.1 hu1.1 bV1 Nu.2 (by rw[<-eU,<-eV];exact hlt);refine amb _ ⟨⟨by dsimp only;omega,by dsimp only;unfold BB;omega⟩,⟨a2,a3⟩,a4,?_,?_⟩
   ·dsimp only;unfold BB at*;omega
   ·dsimp only;exact hlt
  ·have hc:=br hc;refine Yd.bd (gA Wd) (Yd.bd (gA Wd) (Yd.bd (aM ⟨by omega,by omega⟩) (Yd.bd (bJ (by omega)) (Yd.bd (bJ (by omega)) (Yd.bd (aM ⟨by omega,by omega⟩) (Yd.bd (bJ (by omega)) ?_))))));refine Yd.iG (Qb ⟨hu2.1,by omega⟩ hu1 hv1.2) ?_;rintro⟨q,r⟩ ⟨d1,d2,d3⟩;dsimp only at d1 d2 d3⊢;have ee:q*v.getD (k+1) 0+r=u.getD (k+1) 0+BB*u.getD (k+2) 0:=by rw[Int.mul_comm BB];omega
   refine amb _ ⟨d1,⟨d2.1,by dsimp only;omega⟩,.inl rfl,by dsimp only;omega,?_⟩;dsimp only;have:=XV hP bU1 bV0 (show 0<=q+1 by omega)<|af2 ee d2.2 hu0.2 d1.1 Nu.1
   rw[<-eU,<-eV] at this;exact this
 rintro⟨q1,r1,c1⟩ ⟨s1,s2,s3,s4,s5⟩;dsimp only at s1 s2 s3 s4 s5⊢;refine Yd.jn (fun q:Int=>(0<=q/\q<BB)/\(q-1)*aO v<=aO u/\aO u<(q+1)*aO v) ?_ ?_
 rotate_left
 ·intro k41 apy;refine Yd.lp (fun s:Int×Int×Int=>(0<=s.1/\s.1<BB)/\(0<=s.2.1/\s.2.1<BB)/\(s.2.2=0\/s.2.2=1)/\s.1*v.getD (k+1) 0+(s.2.1+BB*s.2.2)=u.getD (k+1) 0+BB*u.getD (k+2) 0/\aO u<(s.1+1)*aO v)
   (fun s:Int×Int×Int=>s.1.toNat) ?_ _ _ ⟨s1,s2,s3,s4,s5⟩ (by dsimp only;unfold BB at*;omega)
  rintro next ⟨q,r,c⟩ ⟨h1,h2,h3,h4,h5⟩ hn
  dsimp only at h1 h2 h3 h4 h5 hn⊢;have fin:(BB<=r+BB*c\/q*v.getD k 0<=BB*(r+BB*c)+u.getD k 0)->Yd _ (k41 q):=fun hh=>by
   refine apy q ⟨h1,?_,h5⟩;have:=af3 (P:=gX k) (UL:=aO<|u.take k) (VL:=aO<|v.take k) h4 h1 (by unfold BB at*;omega) Nu hu0.1 Z2 hh hP bU0 bV1 bV0;rw[<-eU,<-eV] at this;exact this
  refine Yd.cond (fun hc=>?_)<|fun hc=>?_
  ·have hc:=aZ hc;subst hc;obtain⟨hi,lo,m1,m2,m3,m4,m5,m6⟩:=Lh h1 Nu;refine Yd.bd (aM ⟨by omega,by omega⟩) (Yd.bd (bJ (by omega))<|Yd.bd m1 ?_);have key:Yd (fun r=>okW r.1/\r.1.length=k+3/\(0<=r.2/\r.2<BB)/\aO u=r.2*aO v+aO r.1/\aO r.1<aO v)
     (cond (((decide<|hi<r)||((decide<|hi=r)&&(decide<|lo<=u.getD k 0)))) (
     k41 q
    ) (
     bd (aL ((k+1:Nat):Int)) fun Pd=>
     bd (bo v Pd) fun Xf=>
     bd (o7 r Xf (0:Int)) fun On=>
     next (wr .u64<|q-(1:Int),On.1,On.2)
    )):=by
    refine Yd.cond (fun hd=>?_)<|fun hd=>?_
    ·refine fin (.inr ?_);rw[m6];rw[rX,bY,jc,jc,jc] at hd;unfold BB at*;omega
    ·have Fu:BB*r+u.getD k 0<q*v.getD k 0:=by
      rw[m6];rw[se,Bool.and_eq_false_iff,me,me,me] at hd;unfold BB at*;omega
     obtain⟨z,d,a1,a2,a3,a4,a5⟩:=Fh (X:=r) (Y:=v.getD (k+1) 0) (c:=0) h2 hv1<| .inl rfl
     refine Yd.bd (aM ⟨by omega,by omega⟩) (Yd.bd (bJ (by omega))<|Yd.bd a1 ?_);have hUq:=XV hP bU1 bV0 h1.1 (af1 (q:=q) (r:=r) (v1:=v.getD (k+1) 0) (U2:=u.getD (k+1) 0+BB*u.getD (k+2) 0) (by omega) Fu);rw[<-eU,<-eV] at hUq;have hq1:1<=q:=by
      rcases(show 1<=q\/q=0 by omega) with h|h
      ·exact h
      ·rw[h,HO] at hUq;omega
     have ew:wr .u64 (q-1)=q-1:=Oq ⟨by omega,by omega⟩;rw[ew];refine hn _ ⟨⟨by dsimp only;omega,by dsimp only;omega⟩,⟨a2,a3⟩,a4,?_,?_⟩ (by dsimp only;omega)
     ·dsimp only;rw[Int.sub_mul,Int.one_mul];omega
     ·dsimp only;rw[show q-1+1=q from by omega];exact hUq
   have gO:∀{g:Bool} {e:av8 Int} {x:Int} {K:Int->av8 (att Int×Int)} {R:att Int×Int->Prop},e=some x->(g=true->Yd R (K x))->(g=false->Yd R (K 0))->Yd R (iJ g 0 e K):=fun h a b=>Yd.iJ (fun hg=>⟨_,h,a hg⟩) b
   refine gO (aM ⟨by omega,by omega⟩) (fun hg=>gO (bJ (by omega)) (fun vK=>gO (bJ (by omega)) (fun hg2=>key) (fun h=>by rw[hg] at h;cases h)) (fun h=>by rw[hg] at h;cases h))<|fun hg=>?_
   refine Yd.iJ (fun h=>by rw[hg] at h;cases h) (fun _=>Yd.iJ (fun h=>by rw[hg] at h;cases h)<|fun _=>?_);have hgd:(decide (hi<r)||(decide (hi=r)&&decide (lo<=(0:Int))))=(decide (hi<r)||(decide (hi=r)&&decide (lo<=u.getD k 0))):=by
    cases ha:decide (hi<r)
    ·cases hb:decide (hi=r)
     ·rfl
     ·rw[ha,hb] at hg;exact absurd hg (by decide)
    ·rfl
   dsimp only at hgd⊢;rw[hgd];exact key
  ·have hc:=br hc;have hc1:c=1:=by rcases h3 with h|h;exact absurd h hc;exact h
   exact fin (.inl (by rw[hc1];omega))
 rintro q ⟨hq,apl,apj⟩;refine Yd.lp (fun s:att Int×Int×Int×Int=>okW s.1/\s.1.length=k+3/\(s.2.1=0\/s.2.1=1)/\(0<=s.2.2.1/\s.2.2.1<BB)/\0<=s.2.2.2/\s.2.2.2<=(k+2:Nat)/\(∀m,s.2.2.2.toNat<=m->s.1.getD m 0=u.getD m 0)/\
   aO (u.take s.2.2.2.toNat)-q*aO (v.take s.2.2.2.toNat)=aO (s.1.take s.2.2.2.toNat)-gX s.2.2.2.toNat*(s.2.2.1+s.2.1))
  (fun s:att Int×Int×Int×Int=>k+2-s.2.2.2.toNat) ?_ _ _ ⟨hu,Wd,.inl rfl,⟨by dsimp only;omega,by dsimp only;unfold BB;omega⟩,by dsimp only;omega,by dsimp only;omega,fun _ _=>rfl,by simp[aO]⟩ (by dsimp only;omega)
 rintro next ⟨p,b,c,i⟩ ⟨h1,h2,h3,h4,h5,h6,h7,h8⟩ hn
 dsimp only at h1 h2 h3 h4 h5 h6 h7 h8 hn⊢;obtain⟨n,rfl⟩:=gL h5;simp only[Int.toNat_natCast,u6] at*;refine Yd.cond (fun hc=>?_)<|fun hc=>?_
 ·have hc:=aZ hc;obtain⟨hi,lo,m1,m2,m3,m4,m5,m6⟩:=Lh hq<|fg hv n
  obtain⟨z,d,a1,a2,a3,a4,a5⟩:=Fh (X:=lo) (Y:=c) (c:=0) ⟨m4,m5⟩ h4<| .inl rfl
  obtain⟨y,b',b1,b2,b3,b4,b5⟩:=QI (X:=p.getD n 0) (Y:=z) (c:=b) (fg h1 n) ⟨a2,a3⟩ h3;refine Yd.bd (bJ (by omega)) (Yd.bd m1 (Yd.bd a1 (Yd.bd (bJ (by omega)) (Yd.bd (bJ (by omega)) (Yd.bd b1 (Yd.bd (bJ (by omega)) (Yd.bd (bJ (by omega)) (Yd.bd (aM ⟨by omega,by omega⟩) ?_))))))));have ew:wr .u64 (hi+d)=hi+d:=Oq ⟨by omega,by unfold BB at*;omega⟩;dsimp only;rw[ew];refine hn _ ⟨mW h1 _ ⟨b2,b3⟩,by simpa using h2,b4,⟨by dsimp only;omega,by dsimp only;unfold BB at*;omega⟩,by dsimp only;omega,by dsimp only;omega,?_,?_⟩ (by dsimp only;omega)
  ·intro m hm;dsimp only at hm⊢;rw[getD_set_ne (by omega)];exact h7 m (by omega)
  ·simp only[toNat_succ',Int.toNat_natCast];rw[bm u,bm v,bm,dq<|bp _,dr (by omega),<-h7 n (bp _),jA];have k1:q*(aO (v.take n)+gX n*v.getD n 0)=q*aO (v.take n)+gX n*(q*v.getD n 0):=by rw[bt,iT q]
   have k2:gX n*(p.getD n 0)-gX n*(q*v.getD n 0)-gX n*(c+b)=gX n*y-BB*gX n*(hi+d+b'):=by
    rw[Int.mul_comm BB,eP,<-mE,<-mE,<-mE]
    congr 1
    unfold BB at*;omega
   rw[k1];omega
 ·have hc:=br hc;have Kf:n=k+2:=by omega
  subst Kf;obtain⟨y,b',b1,b2,b3,b4,b5⟩:=QI (X:=p.getD (k+2) 0) (Y:=c) (c:=b) (fg h1 _) h4 h3;refine Yd.bd (gA h2)<|Yd.bd (gA h2)<|Yd.bd b1<|Yd.bd (gA h2)<|Yd.bd (gA h2) ?_
  simp only[Int.toNat_natCast];have okq:=mW h1 (k+2) ⟨b2,b3⟩;have hlen:(p.set (k+2) y).length=k+3:=by rw[pU];exact h2
  have eW:aO (p.set (k+2) y)=aO (p.take<|k+2)+gX (k+2)*y:=by
   have:aO ((p.set (k+2) y).take<|k+3)=aO (p.set (k+2) y):=by rw[eF (by omega)]
   rw[<-this,bm,dq<|bp _,dr (by omega)]
  have eU2:aO u=aO (u.take<|k+2)+gX (k+2)*p.getD (k+2) 0:=by
   have:aO (u.take<|k+3)=aO u:=by rw[eF (by omega)]
   rw[<-this,bm,h7 _<|bp _]
  rw[eF (l:=v) (by omega)] at h8;have main:aO u-q*aO v=aO (p.set (k+2) y)-gX (k+3)*b':=by
   have k2:gX (k+2)*p.getD (k+2) 0-gX (k+2)*(c+b)=gX (k+2)*y-BB*gX (k+2)*b':=by
    rw[Int.mul_comm BB,eP,<-mE,<-mE]
    congr 1
    omega
   rw[eW,eU2,show k+3=(k+2)+1 from rfl,jA<|k+2];omega
  have bW:=dw okq;rw[hlen] at bW
  generalize hR:p.set (k+2) y=R at*
  rw[kP,Int.one_mul] at apj;rw[Int.sub_mul,Int.one_mul] at apl;refine Yd.cond (fun hd=>?_)<|fun hd=>?_
  ·have hd:=aZ hd;have hd:b'=0:=hd;rw[hd,Aj] at main;refine Yd.mk ⟨okq,hlen,hq,?_,?_⟩
   ·dsimp only;omega
   ·dsimp only;omega
  ·have hd:=br hd;have hd:b'=1:=by rcases b4 with h|h;exact absurd h hd;exact h
   rw[hd,ni] at main;have hq1:1<=q:=by
    rcases(show 1<=q\/q=0 by omega) with h|h
    ·exact h
    ·rw[h,HO] at main;omega
   refine Yd.lp (fun s:att Int×Int×Int=>okW s.1/\s.1.length=k+3/\(s.2.1=0\/s.2.1=1)/\0<=s.2.2/\s.2.2<=(k+2:Nat)/\(∀m,s.2.2.toNat<=m->s.1.getD m 0=R.getD m 0)/\
     aO (s.1.take s.2.2.toNat)+gX s.2.2.toNat*s.2.1=aO (R.take s.2.2.toNat)+aO (v.take s.2.2.toNat))
    (fun s:att Int×Int×Int=>k+2-s.2.2.toNat) ?_ _ _ ⟨okq,hlen,.inl rfl,by dsimp only;omega,by dsimp only;omega,fun _ _=>rfl,by simp[aO]⟩ (by dsimp only;omega)
   rintro PO ⟨t,e,j⟩ ⟨g1,g2,g3,g4,g5,g6,g7⟩ hn3;dsimp only at g1 g2 g3 g4 g5 g6 g7 hn3⊢;obtain⟨m,rfl⟩:=gL g4;simp only[Int.toNat_natCast,u6] at*;refine Yd.cond (fun hf=>?_)<|fun hf=>?_
   ·have hf:=aZ hf;obtain⟨z,d,a1,a2,a3,a4,a5⟩:=Fh (X:=t.getD m 0) (Y:=v.getD m 0) (c:=e) (fg g1 m) (fg hv m) g3;refine Yd.bd (bJ (by omega)) (Yd.bd (bJ (by omega)) (Yd.bd (bJ (by omega)) (Yd.bd a1 (Yd.bd (bJ (by omega)) (Yd.bd (bJ (by omega)) (Yd.bd (aM ⟨by omega,by omega⟩) ?_))))));refine hn3 _ ⟨mW g1 _ ⟨a2,a3⟩,by simpa using g2,a4,by dsimp only;omega,by dsimp only;omega,?_,?_⟩ (by dsimp only;omega)
    ·intro m' hm;dsimp only at hm⊢;rw[getD_set_ne (by omega)];exact g6 m' (by omega)
    ·simp only[toNat_succ',Int.toNat_natCast];rw[bm R,bm v,bm,dq<|bp _,dr (by omega),<-g6 m (bp _),jA];have k2:gX m*t.getD m 0+gX m*v.getD m 0+gX m*e=gX m*z+BB*gX m*d:=by
      rw[Int.mul_comm BB,eP,<-bt,<-bt,<-bt]
      congr 1
     omega
   ·have hf:=br hf;have Z7:m=k+2:=by omega
    subst Z7;have hT:=fg g1<|k+2
    refine Yd.bd (gA g2)<|Yd.bd (gA g2)<|Yd.bd (gA g2)<|Yd.bd (gA g2)<|Yd.mk ?_
    have ew:wr .u64 (q-1)=q-1:=Oq ⟨by omega,by omega⟩;have ew2:wr .u64 (t.getD (k+2) 0+e)=(t.getD (k+2) 0+e)%BB:=wrW _;rw[ew,ew2];have hm0:=tG (t.getD (k+2) 0+e) (show BB≠0 by unfold BB;omega);have hm1:=r8 (t.getD (k+2) 0+e) (show 0<BB by unfold BB;omega);have hdm:=zy (t.getD (k+2) 0+e) BB;have ht0:(t.getD (k+2) 0+e)/BB=0\/(t.getD (k+2) 0+e)/BB=1:=by unfold BB at*;omega
    generalize hM:(t.getD (k+2) 0+e)%BB=M at*
    generalize hT':(t.getD (k+2) 0+e)/BB=T at*
    have okz:=mW g1 (k+2) ⟨hm0,hm1⟩;have hlz:(t.set (k+2) M).length=k+3:=by rw[pU];exact g2
    have eZ:aO (t.set (k+2) M)=aO (t.take<|k+2)+gX (k+2)*M:=by
     have:aO ((t.set (k+2) M).take<|k+3)=aO (t.set (k+2) M):=by rw[eF (by omega)]
     rw[<-this,bm,dq<|bp _,dr (by omega)]
    have eR:aO R=aO (R.take<|k+2)+gX (k+2)*t.getD (k+2) 0:=by
     have:aO (R.take<|k+3)=aO R:=by rw[eF (by omega)]
     rw[<-this,bm,g6 _<|bp _]
    rw[eF (l:=v) (by omega)] at g7;have bZ:=dw okz;rw[hlz] at bZ;have sum:aO (t.set (k+2) M)+gX (k+3)*T=aO R+aO v:=by
     have k2:gX (k+2)*t.getD (k+2) 0+gX (k+2)*e=gX (k+2)*M+BB*gX (k+2)*T:=by
      rw[Int.mul_comm BB,eP,<-bt,<-bt,hdm]
     rw[eZ,eR,show k+3=(k+2)+1 from rfl,jA<|k+2];omega
    have hpp:gX (k+2)<=gX (k+3):=Hn (by omega);have hT1:T=1:=by
     rcases ht0 with h|h
     ·rw[h,Aj] at sum;omega
     ·exact h
    rw[hT1,ni] at sum;refine⟨okz,hlz,⟨by dsimp only;omega,by dsimp only;omega⟩,?_,?_⟩
    ·dsimp only;rw[Int.sub_mul,Int.one_mul];omega
    ·dsimp only;omega
def xx{A B:Int}(h:A=q*B+r)(h0:0<=r)(h1:r<B):q=A/B/\r=A%B:=by
 have hB:B≠0:=by omega
 subst h;constructor
 ·rw[Int.add_comm,Int.add_mul_ediv_right _ _ hB,Int.ediv_eq_zero_of_lt h0 h1];omega
 ·rw[Int.add_comm,Int.add_mul_emod_self_right,Cw h0 h1]
def oQ(h:n<l.length):l.drop n=l.getD n 0::l.drop (n+1):=by
 rw[D7 h]
 congr 1
 simp[iy,h]
def wX(h:n<l.length)(x:Int):(l.set n x).drop n=x::l.drop (n+1):=by
 rw[oQ (by rw[pU];exact h),dr h,LG (by omega)]
def Ro{w:att Int}(hb:okW b)(hbl:b.length=k+2)(hs:s<=63)(h1:BB<=2*(b.getD (k+1) 0*2^s))(h2:b.getD (k+1) 0*2^s<BB)
 (hw:Norm w)(hv:aO w=aO b*2^s):w.length=k+2/\BB<=2*w.getD (k+1) 0/\aO w<gX (k+2)/\gX (k+1)*2^s<=aO w:=by
 have ps:=two_pos s;have hP:=o5<|k+1
 have OV:aO b=aO (b.take<|k+1)+gX (k+1)*b.getD (k+1) 0:=by
  have:aO (b.take<|k+2)=aO b:=by rw[eF (by omega)]
  rw[<-this,bm]
 obtain⟨t0,t1⟩:=dw<|mV hb<|k+1
 rw[List.length_take,fW (by omega)] at t1;have amh:=TJ (s:=s) (lo:=b.getD (k+1) 0*2^s) (by omega) (Int.mul_emod_left _ _) h2;have hb0:=fg hb<|k+1
 have hbt:1<=b.getD (k+1) 0:=by
  rcases(show 1<=b.getD (k+1) 0\/b.getD (k+1) 0=0 by omega) with h|h
  ·exact h
  ·rw[h,HO] at h1;unfold BB at h1;omega
 generalize b.getD (k+1) 0=t at*
 generalize aO (b.take<|k+1)=L at*
 have e:aO w=L*2^s+gX (k+1)*(t*2^s):=by rw[hv,OV,kP,eP]
 have hL0:0<=L*2^s:=rU t0<|fU ps
 have hL1:L*2^s<gX (k+1)*2^s:=Int.mul_lt_mul_of_pos_right t1 ps;have hg2:=gM amh<|fU hP
 rw[bt] at hg2;have e3:gX (k+2)=gX (k+1)*BB:=by rw[jA<|k+1,Int.mul_comm]
 have hlt:aO w<gX (k+2):=by rw[e,e3];omega
 have Wl:gX (k+1)*2^s<=aO w:=by
  have h3:gX (k+1)*(1*2^s)<=gX (k+1)*(t*2^s):=gM (u7 hbt<|fU ps)<|fU hP
  rw[Int.one_mul] at h3;omega
 have al8:w.length<=k+2:=hw.len hlt;have Ny:k+1<w.length:=by
  rcases kQ (k+1) w.length with h|h
  ·exact h
  ·have h5:=(dw hw.1).2;have h6:=Hn h;have h7:gX (k+1)*1<=gX (k+1)*2^s:=gM (by omega)<|fU hP
   omega
 refine⟨by omega,?_,hlt,Wl⟩;have hlen:w.length=k+2:=by omega
 have hsw:aO w=aO (w.take<|k+1)+gX (k+1)*w.getD (k+1) 0:=by
  have:aO (w.take<|k+2)=aO w:=by rw[eF (by omega)]
  rw[<-this,bm]
 obtain⟨q0,q1⟩:=dw<|mV hw.1<|k+1
 rw[List.length_take,fW (by omega)] at q1
 generalize w.getD (k+1) 0=z at*
 rcases(show BB<=2*z\/2*(z+1)<=BB by unfold BB;omega) with h|h
 ·exact h
 ·exfalso;have h8:gX (k+1)*(2*(z+1))<=gX (k+1)*(2*(t*2^s)):=gM (by omega)<|fU hP
  rw[iT,iT _ 2,bt,ni] at h8;omega
def aeU(h:okW l)(n:Nat):aO (l.take n)<=aO l:=by
 rcases kQ n l.length with h1|h1
 ·rw[qu l n (by omega)];have:=rU (fU<|o5 n) (dw<|xm h n).1;omega
 ·rw[eF h1];exact Int.le_refl _
def drop_zero(h:okW l)(hl:n<=l.length)(hv:aO l<gX n):aO (l.drop n)=0:=by
 have h1:=qu l n hl;have h2:=(dw<|xm h n).1;have h3:=(dw<|mV h n).1;rcases(show aO (l.drop n)=0\/1<=aO (l.drop n) by omega) with h4|h4
 ·exact h4
 ·have:=gM h4 (fU<|o5 n);omega
def VE(Wf:0<s)(hs:s<=63)(hx:0<=x/\x<BB)(hy:0<=y/\y<BB):
  ∃lo:Int,Hd .u64 y ((64-s:Nat):Int)=some lo/\0<=nV .or .u64 (x/2^s) lo/\nV .or .u64 (x/2^s) lo<BB/\nV .or .u64 (x/2^s) lo*2^s=x-x%2^s+BB*(y%2^s):=by
 have h2:=sr (s:=s) (by omega);have p1:=two_pos s;have p2:=two_pos<|64-s
 have r0:=tG y (show(2:Int)^s≠0 by omega);have r1:=r8 y p1;have elo:y*2^(64-s)%BB=2^(64-s)*(y%2^s):=by
  rw[<-h2,Int.mul_comm y,Int.mul_comm<|2^s,Int.mul_emod_mul_of_pos _ _ p2]
 refine⟨2^(64-s)*(y%2^s),by rw[ae7 (by omega),elo],?_⟩;have l0:0<=2^(64-s)*(y%2^s):=rU (fU p2) r0;have d0:0<=x/2^s:=rV hx.1<|fU p1
 have d1:x/2^s<2^(64-s):=by
  refine Ie p1 ?_;rw[Int.mul_comm,h2];exact hx.2
 have hl:2^(64-s)*(y%2^s)+2^(64-s)<=BB:=by
  have:=gM (show y%2^s+1<=2^s by omega)<|fU p2
  rw[bt,ni,Int.mul_comm _<|2^s,h2] at this;exact this
 rw[UU (s:=64-s) l0 d0 d1 (Int.mul_emod_right _ _) (by omega)];refine⟨by omega,by omega,?_⟩;have e:=zy x<|2^s
 rw[kP,LC,Int.mul_comm<|2^(64-s),h2,Int.mul_comm<|x/2^s];omega
end
end Trn
