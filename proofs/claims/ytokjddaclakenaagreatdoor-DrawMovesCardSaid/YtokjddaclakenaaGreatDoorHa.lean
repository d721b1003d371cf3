/-
  Part of the proof of DrawMoves.
-/
import Derived.Test.YtokjddaclakenaaGreatDoorFa
import Derived.Test.YtokjddaclakenaaGreatDoorMa
import Derived.Test.YtokjddaclakenaaGreatDoorSa
import Derived.Shelf.SlSortCmp.NoneTotal
set_option maxRecDepth 100000
set_option maxHeartbeats 20000000
set_option linter.all false
open Go Go.RowKit Go.Proofs Go.Proofs.Tryz
namespace Trn
section
open Go.Shelf
variable[D:DR]
variable{k:Nat}{xs:asv aq6}
def chunk(k:Nat)(xs:asv aq6)(i:Nat):asv aq6:=(xs.drop<|i*k).take k
theorem qU{n:Nat}(h:xs.length=n*k){i:Nat}(hi:i<n):(chunk k xs i).length=k:=by
 have:(i+1)*k<=n*k:=nE k hi;rw[pg,uw] at this;simp[chunk];omega
theorem Rm{n:Nat}(h:xs.length=n*k){t:Nat}(ht:t<n*k):(chunk k xs<|t/k)[t%k]? =xs[t]? :=by
 have hk:0<k:=(xD k).elim (fun e=>by subst e;simp at ht) id;have hm:=uv t hk;unfold chunk;rw[Bi,if_pos hm,zJ]
 congr 1
 rw[pF];exact Nat.div_add_mod t k
theorem Xu{ys:asv aq6}(h:ys.length=k):chunk k (ys++xs) 0=ys:=by
 simp[chunk,<-h]
theorem Xv{ys:asv aq6}(h:ys.length=k)(i:Nat):chunk k (ys++xs) (i+1)=chunk k xs i:=by
 unfold chunk;rw[pg,uw,CH,<-h,zH];have e:List.drop (ys.length+i*ys.length) ys=[]:=List.drop_eq_nil_of_le (by omega);rw[e,AF]
 congr 2;omega
end
section
open Go.Shelf
variable[D:DR]
variable{P:Program}{A:Type}{τ:A->Ty}{k:Nat}{H:HV}
theorem pX(hn:∀a,(τ a).n=k)(ha:∀a,(τ a).agg=true):∀{l:asv A} {xs:asv aq6},vH H (lT τ l) xs->xs.length=l.length*k/\∀i (hi:i<l.length),(τ l[i]).ok H (.agg (chunk k xs i).toArray)
 |[],xs,h=>by
  have h:xs=[]:=h;subst h;exact⟨by simp,fun i hi=>absurd hi<|Nat.not_lt_zero _⟩
 |a::l,xs,h=>by
  obtain⟨v,rest,e,hv,hr⟩:=h;have sh:=(τ a).shape hv;obtain⟨hl,hc⟩:=pX hn ha hr;have hs:v.cells.toList.length=k:=by rw[gN,sh.size,hn]
  subst e;refine⟨by simp only[List.length_append,hs,hl,List.length_cons];rw[pg];omega,fun i hi=>?_⟩;cases i with
  |zero=>
   rw[Xu hs];have e:=sh.eq;rw[ha] at e;have e:v= .agg v.cells:=e;simpa[<-e] using hv
  |succ i=>
   rw[Xv hs];exact hc i (by simpa using hi)
theorem wv:∀{l:asv A} {xs:asv aq6},xs.length=l.length*k->(∀i (hi:i<l.length),(τ l[i]).ok H<| .agg (chunk k xs i).toArray)->vH H (lT τ l) xs
 |[],xs,h,_=>sW (by simpa using h)
 |a::l,xs,h,hc=>by
  have hlen:xs.length=k+l.length*k:=by simpa[pg,CH] using h
  have h0:=hc 0 (by simp);have e0:chunk k xs 0=xs.take k:=by simp[chunk]
  rw[e0] at h0;refine⟨_,xs.drop k,?_,h0,wv (by simp[hlen]) fun i hi=>?_⟩
  ·simp[Value.cells]
  ·have:=hc (i+1) (by simpa using hi);have e:chunk k xs (i+1)=chunk k (xs.drop k) i:=by
    unfold chunk;rw[ji,pg,uw,CH]
   rwa [e] at this
end
section
open Go.Shelf
variable[D:DR]
variable{w:aq5}
theorem YW{w':aq5}(h: @F4 DR.strict w.heap.size w w'):∃q os,w'=Go.Sort.grow (w.drewN q) os:=by
 refine⟨w'.drawn-w.drawn,w'.heap.extract w.heap.size w'.heap.size,?_⟩;have hd:w.drawn+(w'.drawn-w.drawn)=w'.drawn:=by have h:w.drawn<=w'.drawn:=F4.drawn (D:=DR.strict) h;omega
 have hh:w.heap++w'.heap.extract w.heap.size w'.heap.size=w'.heap:=by
  apply Array.ext_getElem?;intro i;rw[MX];have hs:=(F4.toBelow (D:=DR.strict) h).size;split
  ·rename_i hi;exact((F4.toBelow (D:=DR.strict) h).block i hi).symm
  ·rename_i hi;rw[Array.getElem?_extract];by_cases h2:i-w.heap.size<min w'.heap.size w'.heap.size-w.heap.size
   ·rw[if_pos h2];congr 1;omega
   ·rw[if_neg h2]
    symm;apply Array.getElem?_eq_none
    omega
 obtain⟨heap,tape,drawn,os,output⟩:=w';obtain⟨arZ,arl,aq0,os0,anG⟩:=w;simp only[World.drewN,Go.Sort.grow];simp only[World.mk.injEq];have hb:=F4.toBelow (D:=DR.strict) h;exact⟨hh.symm,hb.tape,hd.symm,hb.os,hb.output⟩
theorem o0{α:Type}[Inhabited α]{enc:α->asv aq6}{k:Nat}{blk off m:Nat}{dk:auA α}{os:auA Obj}{r:Nat}(hr:r<w.heap.size)(hne:r≠blk):(sortWorldK enc k w blk off m dk os).heap[r]? =w.heap[r]? :=by
 unfold sortWorldK Go.Sort.grow Go.Sort.putRowK Go.Sort.putRow Go.Sort.mapBlock Go.Sort.ahead;simp only[MX,Array.size_modify,hr,if_pos,CV];rw[if_neg<|fun e=>hne e.symm]
theorem xq{α:Type}[Inhabited α]{enc:α->asv aq6}{k:Nat}{blk off m:Nat}{dk:auA α}{os:auA Obj}:w.heap.size<=(sortWorldK enc k w blk off m dk os).heap.size:=by
 unfold sortWorldK Go.Sort.grow Go.Sort.putRowK Go.Sort.putRow Go.Sort.mapBlock Go.Sort.ahead;simp
end
section
open Go.Shelf
variable[D:DR]
variable{P:Program}{A:Type}{τ:A->Ty}{k:Nat}{H:HV}{c:A×A->Option Int}
theorem Pr(hn:∀a,(τ a).n=k)(ha:∀a,(τ a).agg=true){l:asv A}{xs:asv aq6}{w:aq5}{blk off g:Nat}{cap:auA aq6}{pL:asv Ty}(hxs:vH H (lT τ l) xs)
  (sub:∀r o,H r=some o->w.heap[r]? =some o)(gl:qn P H)(hB:H blk=none)(JJ:Ct H pL cap.toList)
  (hf:∀a r,c a=some r-> @fC DR.strict P g ([τ a.1,τ a.2]++pL) (.vs [TI .i64 r]))(cf:Fin l.length->Fin l.length->Int)(tot:∀i j,c (l[i],l[j])=some (cf i j))[Inhabited<|Fin l.length]:
  CmpLays P g cap (fun i:Fin l.length=>chunk k xs i) k cf blk off l.length w:=by
 intro m os dk hdk x y;obtain⟨_,hc⟩:=pX hn ha hxs;have hs:∀r o,H r=some o->(sortWorldK (fun i:Fin l.length=>chunk k xs i) k w blk off m dk os).heap[r]? =some o:=fun r o h=>by
  have h1:=sub r o h;rw[o0 (lt_of_heap h1) (fun e=>by rw[e,hB] at h;cases h)];exact h1
 have hr:=fC.run (D:=DR.strict) (hf (l[x],l[y]) _<|tot x y) _ H ([Value.agg (chunk k xs x).toArray,Value.agg (chunk k xs y).toArray]++cap.toList) hs gl<|zf ⟨_,_,rfl,hc x x.2,_,_,rfl,hc y y.2,rfl⟩ JJ
 have ea:([Value.agg (chunk k xs x).toArray,Value.agg (chunk k xs y).toArray]++cap.toList).toArray= #[Value.agg (chunk k xs x).toArray,Value.agg (chunk k xs y).toArray]++cap:=by simp
 rw[ea] at hr;refine hr.mono ?_;rintro e w' ⟨v,rfl,hb,H',_,_,hv⟩;have hv:v= .int .i64 (cf x y):=hv;subst hv;exact⟨rfl,YW hb⟩
end
section
open Go.Shelf
variable[D:DR]
variable{α:Type}{k:Nat}{cur:auA aq6}
theorem HB[Inhabited α]{enc:α->asv aq6}(hk:∀x,(enc x).length=k){d:auA α}{i:Nat}(hi:i<d.size):chunk k (Go.Sort.flatK enc k d).toList i=enc d[i]! :=by
 have hb:i*k+k<=d.size*k:=by
  have:=nE k<|show i+1<=d.size from hi
  rwa [pg,uw] at this
 apply Ju;intro t;unfold chunk;rw[Bi];by_cases ht:t<k
 ·rw[if_pos ht,zJ,vX];have hlt:i*k+t<d.size*k:=by omega
  have e1:(i*k+t)/k=i:=by rw[pF,Nat.mul_add_div (by omega),Nat.div_eq_of_lt ht,ux]
  have e2:(i*k+t)%k=t:=by rw[pF,Nat.mul_add_mod,AH ht]
  have hl:=hk d[i]!;unfold Go.Sort.flatK;rw[Array.getElem?_map,Array.getElem?_range,if_pos hlt,yG,e1,e2,ph (enc d[i]!) t (by omega),kQ (by omega)]
 ·rw[if_neg ht,MW (by rw[hk];omega)]
theorem C3{n:Nat}{xs:asv aq6}{w:aq5}{blk:Nat}{E:asr}[Inhabited<|Fin n](hl:xs.length=n*k)(hb:w.heap[blk]? =some (.cells cur E (0,0)))(ht:cur.toList.take (n*k)=xs):
  Go.Sort.HoldsK (fun i:Fin n=>chunk k xs i) k w blk 0 (Array.ofFn fun i:Fin n=>i):=by
 unfold Go.Sort.HoldsK Go.Sort.Holds;intro j hj;rw[Go.Sort.size_flatK,CL] at hj;have Hs:cur[j]? =xs[j]? :=by rw[<-ht,Bi,if_pos hj,vX]
 have hk:0<k:=(xD k).elim (fun e=>by subst e;simp at hj) id;have hi:j/k<n:=Nat.div_lt_of_lt_mul (by rw[pF];exact hj);refine⟨?_,by simp[World.frozen?,hb]⟩;rw[Go.Sort.get_flatK _ _ _ _ (by simpa using hj),wG];rw[Js hb,Hs];have e1:(Array.ofFn fun i:Fin n=>i)[j/k]! =⟨j/k,hi⟩:=by rw[ph (Array.ofFn fun i:Fin n=>i) (j/k) (by simpa using hi)];simp
 rw[e1];have hg:=Rm hl hj;have hlt:j%k<(chunk k xs<|j/k).length:=by rw[qU hl hi];exact uv _ hk
 show xs[j]? =some (id (chunk k xs<|j/k)[j%k]!);rw[<-hg,ph (chunk k xs<|j/k) (j%k) hlt,kQ hlt];rfl
theorem yd[Inhabited α]{enc:α->asv aq6}{w:aq5}{blk m:Nat}{dk:auA α}{os:auA Obj}{E:asr}{fr:Nat×Nat}(hb:w.heap[blk]? =some (.cells cur E fr)):
  (sortWorldK enc k w blk 0 m dk os).heap[blk]? =some (.cells (Go.Sort.putCells id 0 (Go.Sort.flatK enc k dk) cur) E fr):=by
 unfold sortWorldK Go.Sort.grow Go.Sort.putRowK Go.Sort.putRow Go.Sort.mapBlock Go.Sort.ahead;simp only[MX,Array.size_modify,lt_of_heap hb,if_pos,CV,hb,yG]
 rfl
theorem GG[Inhabited α]{d:auA aq6}(h:d.size<=cur.size):(Go.Sort.putCells id 0 d cur).toList.take d.size=d.toList:=by
 apply Ju;intro i;rw[Bi];split
 ·rename_i hi;rw[vX,vX];unfold Go.Sort.putCells;rw[Array.getElem?_mapIdx,FM (by omega:i<cur.size),yG,if_pos ⟨jv _,by omega⟩,Nat.sub_zero,FM hi,ph d i hi];rfl
 ·rename_i hi;rw[MW (by simpa using hi)]
end
section
open Go.Shelf
variable[D:DR]
variable{P:Program}{ρ:Ren}{A:Type}[DecidableEq A]{τ:A->Ty}{k:Nat}{c:A×A->Option Int}
variable{l r:asv A}
theorem Z5{α:Type}{l:asv α}{d:auA (Fin l.length)}(h:d.toList.Perm (Array.ofFn fun i:Fin l.length=>i).toList):(d.toList.map fun i=>l[i]).Perm l:=by
 have h1:=h.map fun i:Fin l.length=>l[i]
 have e:(Array.ofFn fun i:Fin l.length=>i).toList.map (fun i:Fin l.length=>l[i])=l:=by
  rw[Sx,List.map_ofFn];exact List.ofFn_getElem
 rwa [e] at h1
theorem QK(hm:iq l c=some r)[Inhabited<|Fin l.length]{cf:Fin l.length->Fin l.length->Int}(tot:∀i j,c (l[i],l[j])=some (cf i j)){d:auA (Fin l.length)}
 (hp:Go.Sort.PermIn 0 l.length (Array.ofFn fun i:Fin l.length=>i) d)(hs:Go.Sort.SortedIn (ltOf cf) 0 l.length d):d.size=l.length/\(d.toList.map fun i=>l[i])=r:=by
 obtain⟨h1,h2,_,_⟩:=wS hm;obtain⟨hz,_,Re⟩:=hp;rw[CL] at hz;have e1:d.extract 0 d.size=d:=Array.extract_size;rw[hz] at e1;have e2:(Array.ofFn fun i:Fin l.length=>i).extract 0 l.length=Array.ofFn fun i:Fin l.length=>i:=by
  have h:(Array.ofFn fun i:Fin l.length=>i).extract 0 (Array.ofFn fun i:Fin l.length=>i).size=Array.ofFn fun i:Fin l.length=>i:=Array.extract_size
  rwa [CL] at h
 rw[e1,e2] at Re;have SO:=Z5 Re;refine⟨hz,QJ h2 (SO.trans h1.symm) ?_⟩;refine M1.2 fun i j hi hj VU=>?_
 simp only[gG,gN] at hi hj;have hlt:=hs i j (jv _) VU (by omega);rw[ph d j hj,ph d i hi] at hlt;simp only[List.getElem_map,Array.getElem_toList];have hn: ¬cf d[j] d[i]<0:=by simpa[ltOf] using hlt
 have mem:∀i:Fin l.length,l[i]∈r:=fun i=>h1.mem_iff.2<|rp _
 have:=mt (IN h2 (mem d[j]) (mem d[i])<|tot d[j] d[i]).2 hn;omega
theorem T1(hm:iq l c=some r){cf:Fin l.length->Fin l.length->Int}(tot:∀i j,c (l[i],l[j])=some (cf i j)):Go.Sort.SWO (ltOf cf):=by
 obtain⟨h1,h2,_,_⟩:=wS hm;have mem:∀i:Fin l.length,l[i]∈r:=fun i=>h1.mem_iff.2<|rp _
 have key:∀i j,ltOf cf i j=decide (r.idxOf l[i]<r.idxOf l[j]):=fun i j=>by
  unfold ltOf;exact yI.2<|IN h2 (mem i) (mem j)<|tot i j
 refine⟨fun x=>?_,fun x y z h1 h2=>?_,fun x y z h1 h2=>?_⟩
 ·rw[key];simp
 ·rw[key] at*;simp only[j4] at*;omega
 ·rw[key] at*;simp only[lq] at*;omega
theorem Ug(hn:∀a,(τ a).n=k)(ha:∀a,(τ a).agg=true){xs:asv aq6}{H:HV}{w:aq5}{blk lA:Nat}{cur:auA aq6}{E:asr}{B:an P}(sub:∀r o,H r=some o->w.heap[r]? =some o)(gS:vH H (lT τ l) xs)
 (hown:∀b,Value.ownBlock (.slice (some ⟨blk,0,none⟩) l.length lA)=some b->H b=none/\B.mY b)(hblk:w.heap[blk]? =some (.cells cur E (0,0)))(hnc:l.length<=lA)(hcm:lA<=maxLen)(hcs:cur.size=lA*k)[Inhabited<|Fin l.length]
 {d':auA (Fin l.length)}(hdz:d'.size=l.length)(YT:(d'.toList.map fun i=>l[i])=r)(m:Nat)(os:auA Obj):
  JZ (fun b=>Value.ownBlock (.slice (some ⟨blk,0,none⟩) l.length lA)=some b) w H (sortWorldK (fun i:Fin l.length=>chunk k xs i) k w blk 0 m d' os) H/\wT B (sortWorldK (fun i:Fin l.length=>chunk k xs i) k w blk 0 m d' os) H E k (lT τ r) (.slice (some ⟨blk,0,none⟩) l.length lA):=by
 obtain⟨GS,SS⟩:=pX hn ha gS;have hrl:r.length=l.length:=by rw[<-YT];simpa using hdz
 have uD:=yd (enc:=fun i:Fin l.length=>chunk k xs i) (k:=k) (m:=m) (dk:=d') (os:=os) hblk;have Tp:(Go.Sort.flatK (fun i:Fin l.length=>chunk k xs i) k d').size=l.length*k:=by rw[Go.Sort.size_flatK,hdz]
 have hle:l.length*k<=cur.size:=by rw[hcs];exact nE k hnc
 have SQ:=GG (α:=Fin l.length) (d:=Go.Sort.flatK (fun i:Fin l.length=>chunk k xs i) k d') (cur:=cur) (by rw[Tp];exact hle);refine⟨Tr.BE (M:=fun b=>Value.ownBlock (.slice (some ⟨blk,0,.none⟩) l.length lA)=some b) ⟨xq,rfl,rfl,rfl,?_,fun i hi hne=>o0 hi (fun e=>hne (by rw[e];rfl))⟩ sub fun b hb=>(hown b hb).1,
   ⟨(Go.Sort.flatK (fun i:Fin l.length=>chunk k xs i) k d').toList,?_,?_,hown⟩⟩
 ·refine HU.of ?_;show w.drawn<=(sortWorldK _ k w blk 0 m d' os).drawn;unfold sortWorldK Go.Sort.grow Go.Sort.putRowK Go.Sort.putRow Go.Sort.mapBlock Go.Sort.ahead;exact CR _ _
 ·have OW:(lT τ r).length=l.length:=by rw[gG,hrl]
  rw[OW];refine⟨by rw[gN,Tp],.inr ⟨blk,lA,_,rfl,jv _,uD,hnc,hcm,?_,?_⟩⟩
  ·rw[<-hcs];simp[Go.Sort.putCells]
  ·rw[<-Tp];exact SQ
 ·refine wv (by rw[gN,Tp,hrl]) fun i hi=>?_
  have YQ:i<d'.size:=by omega
  rw[HB (fun i=>qU GS i.2) YQ];rw[ph d' i YQ];have e:r[i]=l[d'[i]]:=by
   have:r[i]? =(d'.toList.map fun i=>l[i])[i]? :=by rw[YT]
   rw[kQ hi,nS,vX,FM YQ] at this;simpa using this
  rw[e];exact SS _ d'[i].2
set_option maxHeartbeats 1000000 in
theorem vw(L:SlLaysF0.n6 P ρ)(aE:∀w,(isAgg<|ρ.t 24).run P w= .ok true w)(zE:∀w,(Go.sizeOf<|ρ.t 24).run P w= .ok k w)(hc:eN P (ρ.f 6)=true)
 (hn:∀a,(τ a).n=k)(ha:∀a,(τ a).agg=true)(none:∀(p:auz Addr) (cap:Nat) (fv:aq6) (w:aq5),Calls P (ρ.f 6) #[.slice p 0 cap,fv] w fun e w'=>e= .returned (.tuple #[])/\w'=w)
 (hm:iq l c=some r):
  gi P (ρ.f 6) [] (.buf (ρ.t 24) k<|lT τ l) (.buf (ρ.t 24) k<|lT τ r) [Gk P (fun x:A×A=>[τ x.1,τ x.2]) (fun x:Int=>[(TI .i64) x]) c] []:=by
 obtain⟨h1,h2,h3,h4⟩:=wS hm;refine⟨hc,fun w H v ps qs sub gl hp hq hs=>?_⟩;have hp:=yr hp;subst hp;obtain⟨fv,rfl,hfv⟩:=tT hq;obtain⟨g,cap,pL,rfl,JJ,hf⟩:=hfv;obtain⟨xs,hown,gS,hH⟩:=hs;have hlen:(lT τ l).length=l.length:=gG ..;rw[hlen] at hown;have BE:∀b,v.ownBlock=some b->H b= .none:=fun b hb=>(hH b hb).1
 by_cases hl0:l=[]
 ·subst hl0;have hr:r=[]:=List.Perm.eq_nil h1;subst hr;obtain⟨p,lA,rfl⟩:∃p lA,v= .slice p 0 lA:=by
   rcases hown.2 with⟨hv,_⟩|⟨g,cap,cur,hv,_⟩
   ·exact⟨_,_,hv⟩
   ·exact⟨_,_,hv⟩
  refine(none p lA _ w).mono ?_;rintro e w' ⟨rfl,rfl⟩;exact⟨_,rfl,H,(Tr.refl _ _).BE sub BE,⟨xs,hown,gS,hH⟩,fun b hb=> .inl hb,#[],rfl,rfl⟩
 ·have hpos:0<l.length:=CU.2 hl0;obtain⟨blk,lA,cur,rfl,hblk,hnc,hcm,hcs,htake⟩:∃blk lA cur,v= .slice (some ⟨blk,0,.none⟩) l.length lA/\w.heap[blk]? =some (.cells cur (ρ.t 24) (0,0))/\l.length<=lA/\lA<=maxLen/\cur.size=lA*k/\cur.toList.take (l.length*k)=xs:=by
   rcases hown.2 with⟨_,hz⟩|⟨g,cap,cur,hv,_,r⟩
   ·omega
   ·exact⟨g,cap,cur,hv,r⟩
  haveI:Inhabited (Fin l.length):=⟨⟨0,hpos⟩⟩
  obtain⟨GS,SS⟩:=pX hn ha gS
  let cf:Fin l.length->Fin l.length->Int:=fun i j=>(c (l[i],l[j])).getD 0
  have tot:∀i j:Fin l.length,c (l[i],l[j])=some (cf i j):=fun i j=>by
   obtain⟨v,hv⟩:=h3 _ (rp i.2) _<|rp j.2
   have hv:c (l[i],l[j])=some v:=hv;show c (l[i],l[j])=some ((c (l[i],l[j])).getD 0);rw[hv];rfl
  have hB:H blk= .none:=BE blk rfl;have Xa:=fC.can (D:=DR.strict)<|hf _ _<|tot ⟨0,hpos⟩ ⟨0,hpos⟩
  have hcmp:=Pr (P:=P) (off:=0) hn ha gS sub gl hB JJ hf cf tot;have hd:(Array.ofFn fun i:Fin l.length=>i).size=l.length:=CL;have main:=AnyQ.slices_SortFunc L k aE zE (fun i:Fin l.length=>chunk k xs i) (fun i=>qU GS i.2)
   (fun i u hu=>wY gS u<|zK<|vV hu) cf (T1 hm tot) g cap blk 0 lA (Array.ofFn fun i:Fin l.length=>i) w
   (fun args w=>jX Xa args w) (by rw[hd];exact hcmp) (C3 GS hblk htake) (lt_of_heap hblk) (by rw[hd];exact h4)
  rw[hd] at main;refine main.mono ?_;rintro e w' ⟨rfl,d',m,os,Re,ac9,rfl⟩;obtain⟨hdz,YT⟩:=QK hm tot Re ac9;obtain⟨ht,hr⟩:=Ug hn ha (B:=an.KC P w fun b=>(bN.buf (ρ.t 24) k<|lT τ l).owns w (.slice (some ⟨blk,0,.none⟩) l.length lA) b) sub gS hH hblk hnc hcm hcs hdz YT m os;exact⟨_,rfl,H,ht,hr,fun b hb=> .inl hb,#[],rfl,rfl⟩
theorem ab1(L:SlLaysE0.n35 P ρ)(aE:∀w,(isAgg<|ρ.t 23).run P w= .ok true w)(zE:∀w,(Go.sizeOf<|ρ.t 23).run P w= .ok k w)(hc:eN P (ρ.f 35)=true)
 (hn:∀a,(τ a).n=k)(ha:∀a,(τ a).agg=true)(hm:Kq l=some r):
  gi P (ρ.f 35) [] (.buf (ρ.t 23) k<|lT τ l) (.buf (ρ.t 23) k<|lT τ r) [] []:=by
 have hm:=fG hm;refine⟨hc,fun w H v ps qs sub gl hp hq hs=>?_⟩;have hp:=yr hp;subst hp;have hq:=yr hq;subst hq;obtain⟨xs,hown,gS,hH⟩:=hs;have hlen:(lT τ l).length=l.length:=gG ..;rw[hlen] at hown;have BE:∀b,v.ownBlock=some b->H b= .none:=fun b hb=>(hH b hb).1
 by_cases hl0:l=[]
 ·subst hl0;subst hm;obtain⟨p,lA,rfl⟩:∃p lA,v= .slice p 0 lA:=by
   rcases hown.2 with⟨hv,_⟩|⟨g,cap,cur,hv,_⟩
   ·exact⟨_,_,hv⟩
   ·exact⟨_,_,hv⟩
  refine(AnyQ.slices_Reverse_empty L p lA w).mono ?_;rintro e w' ⟨rfl,rfl⟩;exact⟨_,rfl,H,(Tr.refl _ _).BE sub BE,⟨xs,hown,gS,hH⟩,fun b hb=> .inl hb,#[],rfl,rfl⟩
 ·have hpos:0<l.length:=CU.2 hl0;obtain⟨blk,lA,cur,rfl,hblk,hnc,hcm,hcs,htake⟩:∃blk lA cur,v= .slice (some ⟨blk,0,.none⟩) l.length lA/\w.heap[blk]? =some (.cells cur (ρ.t 23) (0,0))/\l.length<=lA/\lA<=maxLen/\cur.size=lA*k/\cur.toList.take (l.length*k)=xs:=by
   rcases hown.2 with⟨_,hz⟩|⟨g,cap,cur,hv,_,r⟩
   ·omega
   ·exact⟨g,cap,cur,hv,r⟩
  haveI:Inhabited (Fin l.length):=⟨⟨0,hpos⟩⟩
  obtain⟨GS,SS⟩:=pX hn ha gS;have hd:(Array.ofFn fun i:Fin l.length=>i).size=l.length:=CL;have main:=AnyQ.slices_Reverse L k aE zE (fun i:Fin l.length=>chunk k xs i) (fun i=>qU GS i.2)
   (fun i u hu=>wY gS u<|zK<|vV hu) blk 0 lA (Array.ofFn fun i:Fin l.length=>i) w
   (C3 GS hblk htake) (by rw[hd];exact fZ hnc hcm)
  rw[hd] at main;refine main.mono ?_;rintro e w' ⟨rfl,m,hw⟩;have hw:w'=sortWorldK (fun i:Fin l.length=>chunk k xs i) k w blk 0 m (Array.ofFn fun i:Fin l.length=>i).reverse #[]:=by rw[hw];simp[sortWorldK]
  subst hw;have To:((Array.ofFn fun i:Fin l.length=>i).reverse.toList.map fun i=>l[i])=r:=by
   rw[Array.toList_reverse,List.map_reverse,Sx,List.map_ofFn];rw[<-hm];exact congrArg List.reverse List.ofFn_getElem
  obtain⟨ht,hr⟩:=Ug hn ha (B:=an.KC P w fun b=>(bN.buf (ρ.t 23) k<|lT τ l).owns w (.slice (some ⟨blk,0,.none⟩) l.length lA) b) sub gS hH hblk hnc hcm hcs (by simp) To m #[];exact⟨_,rfl,H,ht,hr,fun b hb=> .inl hb,#[],rfl,rfl⟩
end
section
open Go.Shelf Go.Sort
variable[D:DR]
variable{n:Nat}{dk:auA (Fin n)}{kp:Nat->Bool}{k m kk blk off:Nat}
structure Gl(n:Nat)(kp:Nat->Bool)(m kk:Nat)(dk:auA (Fin n)):Prop where
 size:dk.size=n
 le:kk<m
 low:(dk.toList.take kk).map (·.val)=(List.range m).filter kp
 high:∀j (hj:j<n),m-1<=j->∀h:j<dk.size,dk[j]=⟨j,hj⟩
theorem Gl.len(h:Gl n kp m kk dk)(hm:m<=n):kk=((List.range m).filter kp).length:=by
 rw[<-h.low,gG,List.length_take,gN,h.size];have:=h.le;omega
theorem Gl.start(hk:k<n)(hall:∀j,j<k->kp j=true)(hn:kp k=false):Gl n kp (k+1) k (Array.ofFn fun i:Fin n=>i):=by
 refine⟨by simp,by omega,?_,fun j hj _ h=>by simp⟩;rw[List.range_succ,List.filter_append,List.filter_eq_self.2<|fun j hj=>hall j<|wJ.1 hj];have e:List.filter kp [k]=[]:=by simp[hn]
 rw[e,wK,Sx];apply Ju;intro i;rw[nS,Bi];by_cases hi:i<k
 ·rw[if_pos hi,kQ (by simp;omega),kQ (by simpa using hi)];simp
 ·rw[if_neg hi,MW (by simpa using hi)];rfl
theorem Gl.skip(h:Gl n kp m kk dk)(hn:kp m=false):Gl n kp (m+1) kk dk:=by
 have:=h.le;refine⟨h.size,by omega,?_,fun j hj hm=>h.high j hj (by omega)⟩;rw[List.range_succ,List.filter_append,<-h.low];simp[hn]
theorem Gl.lr(h:Gl n kp m kk dk)(hm:m<n)(hn:kp m=true):Gl n kp (m+1) (kk+1) (dk.setIfInBounds kk ⟨m,hm⟩):=by
 have h0:=h.le;refine⟨by simp[h.size],by omega,?_,fun j hj hm' h2=>?_⟩
 ·rw[List.range_succ,List.filter_append,<-h.low];have e:List.filter kp [m]=[m]:=by simp[hn]
  rw[e];have hs:=h.size;have hkk:kk<dk.toList.length:=by rw[gN,hs];omega
  rw[M4,MJ,List.take_set_of_le<|bG _,FL hkk,List.map_append]
  rfl
 ·rw[Array.getElem_setIfInBounds (by simpa using h2),if_neg (by omega)];exact h.high j hj (by omega) _
theorem ag3{P:ast}{A:Type}{τ:A->Ty}{H:HV}{c:A×A->auz Bool}(hn:∀a,(τ a).n=k)(ha:∀a,(τ a).agg=true){l:asv A}{xs:asv aq6}{w:aq5}{g:Nat}{cap:auA aq6}{pL:asv Ty}(hxs:vH H (lT τ l) xs)
 (sub:∀r o,H r=some o->w.heap[r]? =some o)(gl:qn P H)(hB:H blk=none)(JJ:Ct H pL cap.toList)
 (hf:∀a r,c a=some r-> @fC DR.strict P g ([τ a.1,τ a.2]++pL) (.vs [aZ r]))[Inhabited<|Fin l.length](m:Nat)(os:auA Obj)(dk:auA (Fin l.length))(x y:Fin l.length){b:Bool}(hb:c (l[x],l[y])=some b):
  Calls P g (#[.agg (chunk k xs x).toArray,.agg (chunk k xs y).toArray]++cap) (sortWorldK (fun i:Fin l.length=>chunk k xs i) k w blk off m dk os) fun e w'=>e= .returned (.bool b)/\∃q os',w'=Go.Sort.grow ((sortWorldK (fun i:Fin l.length=>chunk k xs i) k w blk off m dk os).drewN q) os':=by
 obtain⟨_,hc⟩:=pX hn ha hxs;have hs:∀r o,H r=some o->(sortWorldK (fun i:Fin l.length=>chunk k xs i) k w blk off m dk os).heap[r]? =some o:=fun r o h=>by
  have h1:=sub r o h;rw[o0 (lt_of_heap h1) (fun e=>by rw[e,hB] at h;cases h)];exact h1
 have hr:=fC.run (D:=DR.strict) (hf (l[x],l[y]) _ hb) _ H ([Value.agg (chunk k xs x).toArray,Value.agg (chunk k xs y).toArray]++cap.toList) hs gl<|zf ⟨_,_,rfl,hc x x.2,_,_,rfl,hc y y.2,rfl⟩ JJ
 have ea:([Value.agg (chunk k xs x).toArray,Value.agg (chunk k xs y).toArray]++cap.toList).toArray= #[Value.agg (chunk k xs x).toArray,Value.agg (chunk k xs y).toArray]++cap:=by simp
 rw[ea] at hr;refine hr.mono ?_;rintro e w' ⟨v,rfl,hb,H',_,_,hv⟩;have hv:v= .bool b:=hv;subst hv;exact⟨rfl,YW hb⟩
theorem we{cs:auA aq6}:(Builtin.zeroCells cs n).toList.length=n*cs.size:=by simp[Builtin.zeroCells]
theorem PU{cs:auA aq6}(h:∀v∈cs.toList,v.oneCell'=true):∀v∈(Builtin.zeroCells cs n).toList,v.oneCell'=true:=by
 intro v hv;unfold Builtin.zeroCells at hv;rw[Array.toList_map,qb] at hv;obtain⟨i,hi,rfl⟩:=hv;have hi:i<n*cs.size:=by simpa using hi
 have hp:0<cs.size:=(xD cs.size).elim (fun e=>by rw[e] at hi;simp at hi) id;have hm:=uv i hp;rw[ph cs (i%cs.size) hm];exact h _ (by simp)
theorem xt{P:ast}{W:aq5}{S E ty:asr}{z:aq6}{c s:Nat}{F:auA aq6}(hS:P.underlying S=some (.slice E))(hz:∀w,(zeroValue E).run P w= .ok z w)(h1:∀v∈z.cells.toList,v.oneCell'=true)(h:Holds id W blk off F)
 (hs:s+n*z.cells.size<=F.size)(hn:0<n):(Builtin.clear_ #[S] ty #[.slice (some ⟨blk,off+s,none⟩) n c]).run P W= .ok (.tuple #[]) (W.setCells blk (off+s) (Builtin.zeroCells z.cells n).toList):=by
 have yc:=stores_of_holds P h s (Builtin.zeroCells z.cells n).toList (by rw[we];exact hs)<|PU h1
 obtain⟨n,rfl⟩:∃m,n=m+1:=⟨n-1,by omega⟩;unfold Builtin.clear_;simp[fh,aP hS,hz,yc,Result.andThen]
theorem T7[Inhabited<|Fin n]{enc:Fin n->asv aq6}(hk:∀x,(enc x).length=k){i:Nat}(hi:i<dk.size)(x:Fin n):setMany (flatK enc k dk) (i*k) (enc x)=flatK enc k (dk.setIfInBounds i x):=by
 refine ext_get! (by simp) fun t ht=>?_
 have ht':t<dk.size*k:=by simpa using ht
 have k0:0<k:=(xD k).elim (fun h=>by subst h;simp at ht') id;rw[get_setMany _ _ _ t (by simpa using ht'),get_flatK _ _ _ t ht',get_flatK _ _ _ t (by simpa using ht'),hk];by_cases a:t/k=i
 ·rw[if_pos<|(blk_iff k i t k0).2 a];have m:t-i*k=t%k:=by subst a;rw[Nat.mod_eq_sub_div_mul]
  rw[m,a,ph (dk.setIfInBounds i x) i (by simpa using hi),Array.getElem_setIfInBounds_self]
 ·rw[if_neg<|fun h=>a<|(blk_iff k i t k0).1 h];have hd:t/k<dk.size:=Nat.div_lt_of_lt_mul (by rw[pF];exact ht');rw[ph (dk.setIfInBounds i x) (t/k) (by simpa using hd),ph dk (t/k) hd,Array.getElem_setIfInBounds_ne _<|fun e=>a e.symm]
theorem RS[Inhabited<|Fin n]{enc:Fin n->asv aq6}{w0 W:aq5}(h:SWK enc k w0 blk off dk W)(hk:∀x,(enc x).length=k)(hblk:blk<w0.heap.size){i:Nat}(hi:i<dk.size)(x:Fin n):
  SWK enc k w0 blk off (dk.setIfInBounds i x) (W.setCells blk (off+i*k)<|enc x):=by
 obtain⟨m,os,rfl⟩:=h;refine⟨m,os,?_⟩;have hb:i*k+k<=dk.size*k:=by
  have:=nE k<|show i+1<=dk.size from hi
  rwa [pg,uw] at this
 unfold sortWorldK;rw[setCells_grow os blk _ _ _ (by show blk<(putRowK enc k _ blk off dk).heap.size;rw[size_putRowK];exact hblk)]
 congr 1
 unfold putRowK;rw[setCells_putRow _ _ _ _ _ _ (by rw[hk,size_flatK];exact hb),T7 hk hi]
end
end Trn
namespace Te
section
open Go.Shelf Go.Lib Go.Sort
variable{P:Program}{k n:Nat}
set_option maxHeartbeats 4000000 in
set_option maxRecDepth 1000000 in
theorem Xq(F:P.funcs[114]? =some f114)(mixed:P.follows .mixedOrders=true)(t0:P.underlying 0=prog.underlying 0)(t3:P.underlying 3=some (.int .i64))(a3:∀w,(isAgg 3).run P w= .ok false w)(z3:∀w,(Go.sizeOf 3).run P w= .ok 1 w)(v3:∀w,(zeroValue 3).run P w= .ok (.int .i64 0) w)(t4:P.underlying 4=some .bool)(a4:∀w,(isAgg 4).run P w= .ok false w)(z4:∀w,(Go.sizeOf 4).run P w= .ok 1 w)(t191:P.underlying 191=some (.slice 100))(a191:∀w,(isAgg 191).run P w= .ok false w)(z191:∀w,(Go.sizeOf 191).run P w= .ok 1 w)
 (a100:∀w,(isAgg 100).run P w= .ok true w)(z100:∀w,(Go.sizeOf 100).run P w= .ok k w)(zv:Value)(v100:∀w,(zeroValue 100).run P w= .ok zv w)(hzs:zv.cells.size=k)(hz1:∀v∈zv.cells.toList,v.oneCell'=true)[Inhabited<|Fin n](enc:Fin n->List Value)(hk:∀x,(enc x).length=k)(h1:∀x,∀v∈enc x,v.oneCell'=true)(g:Nat)(cb:Array Value)(kp:Nat->Bool)(k0:kp 0=true)(blk off cap:Nat)(w:World)
 (eg:∀args w,(callFunc g args).run P w= .ok (.enter g args) w)(hH:HoldsK enc k w blk off (Array.ofFn fun i:Fin n=>i))(hblk:blk<w.heap.size)(hcap:n<=cap)(hsz:n<=9223372036854775807)
 (hcmp:∀(m:Nat) (os:Array Obj) (dk:Array (Fin n)) (j:Nat) (hj:j+1<n),Calls P g (#[.agg (enc ⟨j+1,hj⟩).toArray,.agg (enc ⟨j,Nat.lt_of_succ_lt hj⟩).toArray]++cb) (sortWorldK enc k w blk off m dk os) fun e w'=>e= .returned (.bool<| !kp (j+1))/\∃q os',w'=grow ((sortWorldK enc k w blk off m dk os).drewN q) os'):
  Calls P 114 #[.slice (some ⟨blk,off,none⟩) n cap,.func (.func g) #[] cb] w fun e w'=>∃kk dk zs W,e= .returned (.slice (some ⟨blk,off,none⟩) kk cap)/\kk=((List.range n).filter kp).length/\SWK enc k w blk off dk W/\dk.size=n/\(dk.toList.take kk).map (·.val)=(List.range n).filter kp/\w'=W.setCells blk (off+kk*k) zs/\zs.length<=(n-kk)*k:=by
 have kz:∀j,j<1->kp j=true:=fun j hj=>by
  obtain rfl:j=0:=by omega
  exact k0
 have hpos:0<n:=Fin.pos default;have hd0:(Array.ofFn fun i:Fin n=>i).size=n:=Array.size_ofFn;have S0:Aside (SWK enc k w blk off (Array.ofFn fun i:Fin n=>i) w):=SWK.start hH;have RR:Aside (RowK enc k w blk off (Array.ofFn fun i:Fin n=>i)):=⟨hk,h1,hH,hblk⟩;have CM:Aside (∀(m:Nat) (os:Array Obj) (dk:Array (Fin n)) (j:Nat) (hj:j+1<n),Calls P g (#[.agg (enc ⟨j+1,hj⟩).toArray,.agg (enc ⟨j,Nat.lt_of_succ_lt hj⟩).toArray]++cb) (sortWorldK enc k w blk off m dk os) fun e w'=>e= .returned (.bool<| !kp (j+1))/\∃q os',w'=grow ((sortWorldK enc k w blk off m dk os).drewN q) os'):=hcmp;clear hH hk h1 hcmp;have all:∀W,SWK enc k w blk off (Array.ofFn fun i:Fin n=>i) W->(∀j,j<n->kp j=true)->∃kk dk zs W',(Ending.returned<| .slice (some ⟨blk,off,none⟩) n cap)= .returned (.slice (some ⟨blk,off,none⟩) kk cap)/\kk=((List.range n).filter kp).length/\SWK enc k w blk off dk W'/\dk.size=n/\(dk.toList.take kk).map (·.val)=(List.range n).filter kp/\W=W'.setCells blk (off+kk*k) zs/\zs.length<=(n-kk)*k:=fun W hW hall=>by
  have e:(List.range n).filter kp=List.range n:=List.filter_eq_self.2 fun j hj=>hall j<|List.mem_range.1 hj
  refine⟨n,_,[],W,rfl,by rw[e];simp,hW,hd0,?_,rfl,Nat.zero_le _⟩;rw[e,Array.toList_ofFn];apply List.ext_getElem
  ·simp
  ·intro i h1 h2;simp
 have ALL:Aside (∀W,SWK enc k w blk off (Array.ofFn fun i:Fin n=>i) W->(∀j,j<n->kp j=true)->∃kk dk zs W',(Ending.returned<| .slice (some ⟨blk,off,none⟩) n cap)= .returned (.slice (some ⟨blk,off,none⟩) kk cap)/\kk=((List.range n).filter kp).length/\SWK enc k w blk off dk W'/\dk.size=n/\(dk.toList.take kk).map (·.val)=(List.range n).filter kp/\W=W'.setCells blk (off+kk*k) zs/\zs.length<=(n-kk)*k):=all;clear all;by_cases h2:n<2
 ·go_enter F,ntmps114
  go_wp2
  go_ret
  exact ALL.out w S0.out fun j hj=>kz j (by omega)
 ·go_enter F,ntmps114
  go_wp2
  go_loopg [5] n (fun gg s5 wr=>∃kx:Nat,1<=kx/\kx<=n/\n-kx<=gg/\s5= .int .i64 kx/\Aside (SWK enc k w blk off (Array.ofFn fun i:Fin n=>i) wr)/\Aside (∀j,j<kx->kp j=true))
  case atStart=>exact⟨1,Nat.le_refl _,by omega,by omega,by first|rfl|go_num,S0,kz⟩
  case round=>
   clear S0;obtain⟨kx,hk1,hkn,hg,rfl,SW,HA⟩:=hrel;by_cases hlt:kx<n
   ·obtain⟨j,rfl⟩:∃j,kx=j+1:=⟨kx-1,by omega⟩;have jz:(j:Int)+1<(n:Int):=by omega
    have jz1:(j:Int)<(n:Int):=by omega
    have p0:(0:Int)<=(j:Int)+1:=by omega
    have e0:((j:Int)+1).toNat=j+1:=by omega
    have hwp:IntKind.i64.wrap (j:Int)=(j:Int):=by rw[IntKind.wrap_i64];omega
    obtain⟨cx,hcx⟩:∃c,(enc ⟨j+1,hlt⟩).toArray=c:=⟨_,rfl⟩;obtain⟨cy,hcy⟩:∃c,(enc ⟨j,Nat.lt_of_succ_lt hlt⟩).toArray=c:=⟨_,rfl⟩;have lj:∀n' os',Sem.run P (loadCellsFrom ⟨blk,off+(j+1)*k,none⟩ 0 k #[]) (grow (wr.drewN n') os')= .ok cx (grow (wr.drewN n') os'):=fun n' os'=>by
     have:=SW.out.ld RR.out (by rw[hd0]) P (j+1) (by rw[hd0];exact hlt) n' os';rw[this,<-hcx,getElem!_pos _ _ (by rw[hd0];exact hlt)];simp
    have lp:∀n' os',Sem.run P (loadCellsFrom ⟨blk,off+j*k,none⟩ 0 k #[]) (grow (wr.drewN n') os')= .ok cy (grow (wr.drewN n') os'):=fun n' os'=>by
     have:=SW.out.ld RR.out (by rw[hd0]) P j (by rw[hd0];omega) n' os';rw[this,<-hcy,getElem!_pos _ _ (by rw[hd0];omega)];simp
    have hcg:∀n' os',Calls P g (#[.agg cx,.agg cy]++cb) (grow (wr.drewN n') os') fun e w'=>e= .returned (.bool<| !kp (j+1))/\∃q os'',w'=grow ((grow (wr.drewN n') os').drewN q) os'':=fun n' os'=>by
     obtain⟨m,os0,hw⟩:=SW.out.grown n' os';rw[hw,<-hcx,<-hcy];exact CM.out m os0 _ j hlt
    cases hkp:kp (j+1) with
    |true=>
     rw[hkp,Bool.not_true] at hcg
     go_wp2_with fail
     go_quiet_grown (first|(go_at_fn g;refine Calls.grown_of<|hcg _ _))
     go_wp2
     go_roundg (n-(j+1+1))
     case measure=>omega
     case rel=>exact⟨j+1+1,by omega,by omega,Nat.le_refl _,by first|rfl|go_num,SW.out.grown nq osq,fun i hi=>by
      rcases Nat.lt_or_ge i (j+1) with h|h
      ·exact HA.out i h
      ·have:i=j+1:=by omega
       rw[this];exact hkp⟩
    |false=>
     rw[hkp,Bool.not_false] at hcg
     go_wp2_with fail
     go_quiet_grown (first|(go_at_fn g;refine Calls.grown_of<|hcg _ _))
     have SW1:Aside (SWK enc k w blk off (Array.ofFn fun i:Fin n=>i)<|grow (wr.drewN nq) osq):=SW.out.grown nq osq;clear lj lp hcg
     generalize grow (wr.drewN nq) osq=wq at SW1⊢
     go_wp2
     go_loopg [5,7] n (fun gg s5 s7 wr=>∃(kk k2:Nat) (dk:Array (Fin n)),s5= .int .i64 kk/\s7= .int .i64 k2/\1<=k2/\j+1+k2<=n/\n-(j+1+k2)<=gg/\Aside (SWK enc k w blk off dk wr)/\Aside (Trn.Gl n kp (j+1+k2) kk dk)/\kk<j+1+k2)
     case atStart=>exact⟨j+1,1,_,by first|rfl|go_num,rfl,Nat.le_refl _,by omega,by omega,SW1,Trn.Gl.start hlt HA.out hkp,by omega⟩
     case round=>
      clear SW1;obtain⟨kk,k2,dk,rfl,rfl,h21,hle,hg2,SW2,CI,hkk⟩:=hrel;have hdk:dk.size=n:=CI.out.size;by_cases hlt2:j+1+k2<n
      ·obtain⟨i,rfl⟩:∃i,k2=i+1:=⟨k2-1,by omega⟩;have iz:(i:Int)+1<((n-(j+1):Nat):Int):=by omega
       have iz1:(i:Int)<((n-(j+1):Nat):Int):=by omega
       have q0:(0:Int)<=(i:Int)+1:=by omega
       have f0:((i:Int)+1).toNat=i+1:=by omega
       have hwq:IntKind.i64.wrap (i:Int)=(i:Int):=by rw[IntKind.wrap_i64];omega
       have ea:off+(j+1)*k+(i+1)*k=off+(j+1+(i+1))*k:=by rw[Nat.add_assoc,<-Nat.add_mul]
       have eb:off+(j+1)*k+i*k=off+(j+1+i)*k:=by rw[Nat.add_assoc,<-Nat.add_mul]
       have ga:dk[j+1+(i+1)]! =⟨j+1+(i+1),hlt2⟩:=by rw[getElem!_pos dk _ (by omega)];exact CI.out.high _ hlt2 (by omega) _
       have gb:dk[j+1+i]! =⟨j+1+i,Nat.lt_of_succ_lt hlt2⟩:=by rw[getElem!_pos dk _ (by omega)];exact CI.out.high (j+1+i) (Nat.lt_of_succ_lt hlt2) (show j+1+(i+1)-1<=j+1+i by omega) _
       obtain⟨cu,hcu⟩:∃c,enc ⟨j+1+(i+1),hlt2⟩=c:=⟨_,rfl⟩;obtain⟨cv,hcv⟩:∃c,enc ⟨j+1+i,Nat.lt_of_succ_lt hlt2⟩=c:=⟨_,rfl⟩;have lu:∀n' os',Sem.run P (loadCellsFrom ⟨blk,off+(j+1)*k+(i+1)*k,none⟩ 0 k #[]) (grow (wr.drewN n') os')= .ok cu.toArray (grow (wr.drewN n') os'):=fun n' os'=>by
        have:=SW2.out.ld RR.out (by rw[hd0];exact hdk) P (j+1+(i+1)) (by omega) n' os';rw[ea,this,ga,hcu]
       have lv:∀n' os',Sem.run P (loadCellsFrom ⟨blk,off+(j+1)*k+i*k,none⟩ 0 k #[]) (grow (wr.drewN n') os')= .ok cv.toArray (grow (wr.drewN n') os'):=fun n' os'=>by
        have:=SW2.out.ld RR.out (by rw[hd0];exact hdk) P (j+1+i) (by omega) n' os';rw[eb,this,gb,hcv]
       have hcg:∀n' os',Calls P g (#[.agg cu.toArray,.agg cv.toArray]++cb) (grow (wr.drewN n') os') fun e w'=>e= .returned (.bool<| !kp (j+1+(i+1)))/\∃q os'',w'=grow ((grow (wr.drewN n') os').drewN q) os'':=fun n' os'=>by
        obtain⟨m,os0,hw⟩:=SW2.out.grown n' os';rw[hw,<-hcu,<-hcv];exact CM.out m os0 dk (j+1+i) hlt2
       have GU:Aside (dk[j+1+(i+1)]! =⟨j+1+(i+1),hlt2⟩/\enc ⟨j+1+(i+1),hlt2⟩=cu):=⟨ga,hcu⟩;clear ea eb ga gb hcu hcv;cases hkq:kp (j+1+(i+1)) with
       |true=>
        rw[hkq,Bool.not_true] at hcg
        go_wp2_with fail
        go_quiet_grown (first|(go_at_fn g;refine Calls.grown_of<|hcg _ _))
        have SW3:Aside (SWK enc k w blk off dk<|grow (wr.drewN nq) osq):=SW2.out.grown nq osq;have l3:=lu nq osq;clear lu lv hcg SW2
        generalize grow (wr.drewN nq) osq=wq at SW3 l3⊢
        have n3:cu.length=k:=by rw[<-GU.out.2];exact RR.out.hk _
        have s3:Sem.run P (storeCells ⟨blk,off+kk*k,none⟩ cu 0) wq= .ok () (wq.setCells blk (off+kk*k) cu):=by
         rw[<-GU.out.2];exact stores_of_holds P (SW3.out.holds RR.out.hblk RR.out.hH (by rw[hdk,hd0])) (kk*k) _ (by rw[RR.out.hk,size_flatK];exact rowK_bnd dk k kk (by omega))<|RR.out.h1 _
        have kz1:(kk:Int)<(n:Int):=by omega
        go_wp2
        go_roundg (n-(j+1+(i+1+1)))
        case measure=>omega
        case rel=>exact⟨kk+1,i+1+1,dk.setIfInBounds kk ⟨j+1+(i+1),hlt2⟩,by first|rfl|go_num,by first|rfl|go_num,by omega,by omega,Nat.le_refl _,by
         show SWK _ _ _ _ _ _ _;rw[<-GU.out.2];exact Trn.RS SW3.out RR.out.hk RR.out.hblk (by omega) _,CI.out.lr hlt2 hkq,by omega⟩
       |false=>
        rw[hkq,Bool.not_false] at hcg
        go_wp2_with fail
        go_quiet_grown (first|(go_at_fn g;refine Calls.grown_of<|hcg _ _))
        have SW3:Aside (SWK enc k w blk off dk<|grow (wr.drewN nq) osq):=SW2.out.grown nq osq;clear lu lv hcg SW2
        generalize grow (wr.drewN nq) osq=wq at SW3⊢
        go_wp2
        go_roundg (n-(j+1+(i+1+1)))
        case measure=>omega
        case rel=>exact⟨kk,i+1+1,dk,rfl,by first|rfl|go_num,by omega,by omega,Nat.le_refl _,SW3,CI.out.skip hkq,by omega⟩
      ·have hend:j+1+k2=n:=by omega
       have hcl:∀ty,(Builtin.clear_ #[191] ty #[.slice (some ⟨blk,off+kk*k,none⟩) (n-kk)<|cap-kk]).run P wr= .ok (.tuple #[]) (wr.setCells blk (off+kk*k) (Builtin.zeroCells zv.cells<|n-kk).toList):=fun ty=>
        Trn.xt t191 v100 hz1 (SW2.out.holds RR.out.hblk RR.out.hH (by rw[hdk,hd0])) (by rw[hzs,size_flatK,hdk,<-Nat.add_mul];exact Nat.mul_le_mul_right k (by omega)) (by omega)
       have kz1:(kk:Int)<=(n:Int):=by omega
       have hzl:(Builtin.zeroCells zv.cells<|n-kk).toList.length<=(n-kk)*k:=by rw[Trn.we,hzs];exact Nat.le_refl _
       generalize (Builtin.zeroCells zv.cells<|n-kk).toList=zl at hcl hzl
       clear v100 hzs hz1
       go_wp2
       go_ret
       have C:=CI.out;rw[hend] at C;exact⟨kk,dk,zl,wr,rfl,C.len<|Nat.le_refl _,SW2.out,hdk,C.low,rfl,hzl⟩
   ·have:kx=n:=by omega
    subst this
    go_wp2
    go_ret
    exact ALL.out wr SW.out HA.out
set_option maxHeartbeats 4000000 in
set_option maxRecDepth 1000000 in
theorem Xt(p:Option Addr)(m:Nat)(hm:m<2)(cap:Nat)(fv:Value)(w:World):Calls prog 114 #[.slice p m cap,fv] w fun e w'=>e= .returned (.slice p m cap)/\w'=w:=by
 go_enter func114,ntmps114
 go_wp2
 go_ret
 exact⟨rfl,rfl⟩
set_option maxHeartbeats 4000000 in
set_option maxRecDepth 1000000 in
theorem Xp(F:P.funcs[181]? =some f181)(mixed:P.follows .mixedOrders=true)(t0:P.underlying 0=prog.underlying 0)(t3:P.underlying 3=some (.int .i64))(a3:∀w,(isAgg 3).run P w= .ok false w)(z3:∀w,(Go.sizeOf 3).run P w= .ok 1 w)(v3:∀w,(zeroValue 3).run P w= .ok (.int .i64 0) w)(t4:P.underlying 4=some .bool)(a4:∀w,(isAgg 4).run P w= .ok false w)(z4:∀w,(Go.sizeOf 4).run P w= .ok 1 w)(t184:P.underlying 184=some (.slice 144))(a184:∀w,(isAgg 184).run P w= .ok false w)(z184:∀w,(Go.sizeOf 184).run P w= .ok 1 w)
 (a144:∀w,(isAgg 144).run P w= .ok true w)(z144:∀w,(Go.sizeOf 144).run P w= .ok k w)(zv:Value)(v144:∀w,(zeroValue 144).run P w= .ok zv w)(hzs:zv.cells.size=k)(hz1:∀v∈zv.cells.toList,v.oneCell'=true)[Inhabited<|Fin n](enc:Fin n->List Value)(hk:∀x,(enc x).length=k)(h1:∀x,∀v∈enc x,v.oneCell'=true)(g:Nat)(cb:Array Value)(kp:Nat->Bool)(k0:kp 0=true)(blk off cap:Nat)(w:World)
 (eg:∀args w,(callFunc g args).run P w= .ok (.enter g args) w)(hH:HoldsK enc k w blk off (Array.ofFn fun i:Fin n=>i))(hblk:blk<w.heap.size)(hcap:n<=cap)(hsz:n<=9223372036854775807)
 (hcmp:∀(m:Nat) (os:Array Obj) (dk:Array (Fin n)) (j:Nat) (hj:j+1<n),Calls P g (#[.agg (enc ⟨j+1,hj⟩).toArray,.agg (enc ⟨j,Nat.lt_of_succ_lt hj⟩).toArray]++cb) (sortWorldK enc k w blk off m dk os) fun e w'=>e= .returned (.bool<| !kp (j+1))/\∃q os',w'=grow ((sortWorldK enc k w blk off m dk os).drewN q) os'):
  Calls P 181 #[.slice (some ⟨blk,off,none⟩) n cap,.func (.func g) #[] cb] w fun e w'=>∃kk dk zs W,e= .returned (.slice (some ⟨blk,off,none⟩) kk cap)/\kk=((List.range n).filter kp).length/\SWK enc k w blk off dk W/\dk.size=n/\(dk.toList.take kk).map (·.val)=(List.range n).filter kp/\w'=W.setCells blk (off+kk*k) zs/\zs.length<=(n-kk)*k:=by
 have kz:∀j,j<1->kp j=true:=fun j hj=>by
  obtain rfl:j=0:=by omega
  exact k0
 have hpos:0<n:=Fin.pos default;have hd0:(Array.ofFn fun i:Fin n=>i).size=n:=Array.size_ofFn;have S0:Aside (SWK enc k w blk off (Array.ofFn fun i:Fin n=>i) w):=SWK.start hH;have RR:Aside (RowK enc k w blk off (Array.ofFn fun i:Fin n=>i)):=⟨hk,h1,hH,hblk⟩;have CM:Aside (∀(m:Nat) (os:Array Obj) (dk:Array (Fin n)) (j:Nat) (hj:j+1<n),Calls P g (#[.agg (enc ⟨j+1,hj⟩).toArray,.agg (enc ⟨j,Nat.lt_of_succ_lt hj⟩).toArray]++cb) (sortWorldK enc k w blk off m dk os) fun e w'=>e= .returned (.bool<| !kp (j+1))/\∃q os',w'=grow ((sortWorldK enc k w blk off m dk os).drewN q) os'):=hcmp;clear hH hk h1 hcmp;have all:∀W,SWK enc k w blk off (Array.ofFn fun i:Fin n=>i) W->(∀j,j<n->kp j=true)->∃kk dk zs W',(Ending.returned<| .slice (some ⟨blk,off,none⟩) n cap)= .returned (.slice (some ⟨blk,off,none⟩) kk cap)/\kk=((List.range n).filter kp).length/\SWK enc k w blk off dk W'/\dk.size=n/\(dk.toList.take kk).map (·.val)=(List.range n).filter kp/\W=W'.setCells blk (off+kk*k) zs/\zs.length<=(n-kk)*k:=fun W hW hall=>by
  have e:(List.range n).filter kp=List.range n:=List.filter_eq_self.2 fun j hj=>hall j<|List.mem_range.1 hj
  refine⟨n,_,[],W,rfl,by rw[e];simp,hW,hd0,?_,rfl,Nat.zero_le _⟩;rw[e,Array.toList_ofFn];apply List.ext_getElem
  ·simp
  ·intro i h1 h2;simp
 have ALL:Aside (∀W,SWK enc k w blk off (Array.ofFn fun i:Fin n=>i) W->(∀j,j<n->kp j=true)->∃kk dk zs W',(Ending.returned<| .slice (some ⟨blk,off,none⟩) n cap)= .returned (.slice (some ⟨blk,off,none⟩) kk cap)/\kk=((List.range n).filter kp).length/\SWK enc k w blk off dk W'/\dk.size=n/\(dk.toList.take kk).map (·.val)=(List.range n).filter kp/\W=W'.setCells blk (off+kk*k) zs/\zs.length<=(n-kk)*k):=all;clear all;by_cases h2:n<2
 ·go_enter F,ntmps181
  go_wp2
  go_ret
  exact ALL.out w S0.out fun j hj=>kz j (by omega)
 ·go_enter F,ntmps181
  go_wp2
  go_loopg [5] n (fun gg s5 wr=>∃kx:Nat,1<=kx/\kx<=n/\n-kx<=gg/\s5= .int .i64 kx/\Aside (SWK enc k w blk off (Array.ofFn fun i:Fin n=>i) wr)/\Aside (∀j,j<kx->kp j=true))
  case atStart=>exact⟨1,Nat.le_refl _,by omega,by omega,by first|rfl|go_num,S0,kz⟩
  case round=>
   clear S0;obtain⟨kx,hk1,hkn,hg,rfl,SW,HA⟩:=hrel;by_cases hlt:kx<n
   ·obtain⟨j,rfl⟩:∃j,kx=j+1:=⟨kx-1,by omega⟩;have jz:(j:Int)+1<(n:Int):=by omega
    have jz1:(j:Int)<(n:Int):=by omega
    have p0:(0:Int)<=(j:Int)+1:=by omega
    have e0:((j:Int)+1).toNat=j+1:=by omega
    have hwp:IntKind.i64.wrap (j:Int)=(j:Int):=by rw[IntKind.wrap_i64];omega
    obtain⟨cx,hcx⟩:∃c,(enc ⟨j+1,hlt⟩).toArray=c:=⟨_,rfl⟩;obtain⟨cy,hcy⟩:∃c,(enc ⟨j,Nat.lt_of_succ_lt hlt⟩).toArray=c:=⟨_,rfl⟩;have lj:∀n' os',Sem.run P (loadCellsFrom ⟨blk,off+(j+1)*k,none⟩ 0 k #[]) (grow (wr.drewN n') os')= .ok cx (grow (wr.drewN n') os'):=fun n' os'=>by
     have:=SW.out.ld RR.out (by rw[hd0]) P (j+1) (by rw[hd0];exact hlt) n' os';rw[this,<-hcx,getElem!_pos _ _ (by rw[hd0];exact hlt)];simp
    have lp:∀n' os',Sem.run P (loadCellsFrom ⟨blk,off+j*k,none⟩ 0 k #[]) (grow (wr.drewN n') os')= .ok cy (grow (wr.drewN n') os'):=fun n' os'=>by
     have:=SW.out.ld RR.out (by rw[hd0]) P j (by rw[hd0];omega) n' os';rw[this,<-hcy,getElem!_pos _ _ (by rw[hd0];omega)];simp
    have hcg:∀n' os',Calls P g (#[.agg cx,.agg cy]++cb) (grow (wr.drewN n') os') fun e w'=>e= .returned (.bool<| !kp (j+1))/\∃q os'',w'=grow ((grow (wr.drewN n') os').drewN q) os'':=fun n' os'=>by
     obtain⟨m,os0,hw⟩:=SW.out.grown n' os';rw[hw,<-hcx,<-hcy];exact CM.out m os0 _ j hlt
    cases hkp:kp (j+1) with
    |true=>
     rw[hkp,Bool.not_true] at hcg
     go_wp2_with fail
     go_quiet_grown (first|(go_at_fn g;refine Calls.grown_of<|hcg _ _))
     go_wp2
     go_roundg (n-(j+1+1))
     case measure=>omega
     case rel=>exact⟨j+1+1,by omega,by omega,Nat.le_refl _,by first|rfl|go_num,SW.out.grown nq osq,fun i hi=>by
      rcases Nat.lt_or_ge i (j+1) with h|h
      ·exact HA.out i h
      ·have:i=j+1:=by omega
       rw[this];exact hkp⟩
    |false=>
     rw[hkp,Bool.not_false] at hcg
     go_wp2_with fail
     go_quiet_grown (first|(go_at_fn g;refine Calls.grown_of<|hcg _ _))
     have SW1:Aside (SWK enc k w blk off (Array.ofFn fun i:Fin n=>i)<|grow (wr.drewN nq) osq):=SW.out.grown nq osq;clear lj lp hcg
     generalize grow (wr.drewN nq) osq=wq at SW1⊢
     go_wp2
     go_loopg [5,7] n (fun gg s5 s7 wr=>∃(kk k2:Nat) (dk:Array (Fin n)),s5= .int .i64 kk/\s7= .int .i64 k2/\1<=k2/\j+1+k2<=n/\n-(j+1+k2)<=gg/\Aside (SWK enc k w blk off dk wr)/\Aside (Trn.Gl n kp (j+1+k2) kk dk)/\kk<j+1+k2)
     case atStart=>exact⟨j+1,1,_,by first|rfl|go_num,rfl,Nat.le_refl _,by omega,by omega,SW1,Trn.Gl.start hlt HA.out hkp,by omega⟩
     case round=>
      clear SW1;obtain⟨kk,k2,dk,rfl,rfl,h21,hle,hg2,SW2,CI,hkk⟩:=hrel;have hdk:dk.size=n:=CI.out.size;by_cases hlt2:j+1+k2<n
      ·obtain⟨i,rfl⟩:∃i,k2=i+1:=⟨k2-1,by omega⟩;have iz:(i:Int)+1<((n-(j+1):Nat):Int):=by omega
       have iz1:(i:Int)<((n-(j+1):Nat):Int):=by omega
       have q0:(0:Int)<=(i:Int)+1:=by omega
       have f0:((i:Int)+1).toNat=i+1:=by omega
       have hwq:IntKind.i64.wrap (i:Int)=(i:Int):=by rw[IntKind.wrap_i64];omega
       have ea:off+(j+1)*k+(i+1)*k=off+(j+1+(i+1))*k:=by rw[Nat.add_assoc,<-Nat.add_mul]
       have eb:off+(j+1)*k+i*k=off+(j+1+i)*k:=by rw[Nat.add_assoc,<-Nat.add_mul]
       have ga:dk[j+1+(i+1)]! =⟨j+1+(i+1),hlt2⟩:=by rw[getElem!_pos dk _ (by omega)];exact CI.out.high _ hlt2 (by omega) _
       have gb:dk[j+1+i]! =⟨j+1+i,Nat.lt_of_succ_lt hlt2⟩:=by rw[getElem!_pos dk _ (by omega)];exact CI.out.high (j+1+i) (Nat.lt_of_succ_lt hlt2) (show j+1+(i+1)-1<=j+1+i by omega) _
       obtain⟨cu,hcu⟩:∃c,enc ⟨j+1+(i+1),hlt2⟩=c:=⟨_,rfl⟩;obtain⟨cv,hcv⟩:∃c,enc ⟨j+1+i,Nat.lt_of_succ_lt hlt2⟩=c:=⟨_,rfl⟩;have lu:∀n' os',Sem.run P (loadCellsFrom ⟨blk,off+(j+1)*k+(i+1)*k,none⟩ 0 k #[]) (grow (wr.drewN n') os')= .ok cu.toArray (grow (wr.drewN n') os'):=fun n' os'=>by
        have:=SW2.out.ld RR.out (by rw[hd0];exact hdk) P (j+1+(i+1)) (by omega) n' os';rw[ea,this,ga,hcu]
       have lv:∀n' os',Sem.run P (loadCellsFrom ⟨blk,off+(j+1)*k+i*k,none⟩ 0 k #[]) (grow (wr.drewN n') os')= .ok cv.toArray (grow (wr.drewN n') os'):=fun n' os'=>by
        have:=SW2.out.ld RR.out (by rw[hd0];exact hdk) P (j+1+i) (by omega) n' os';rw[eb,this,gb,hcv]
       have hcg:∀n' os',Calls P g (#[.agg cu.toArray,.agg cv.toArray]++cb) (grow (wr.drewN n') os') fun e w'=>e= .returned (.bool<| !kp (j+1+(i+1)))/\∃q os'',w'=grow ((grow (wr.drewN n') os').drewN q) os'':=fun n' os'=>by
        obtain⟨m,os0,hw⟩:=SW2.out.grown n' os';rw[hw,<-hcu,<-hcv];exact CM.out m os0 dk (j+1+i) hlt2
       have GU:Aside (dk[j+1+(i+1)]! =⟨j+1+(i+1),hlt2⟩/\enc ⟨j+1+(i+1),hlt2⟩=cu):=⟨ga,hcu⟩;clear ea eb ga gb hcu hcv;cases hkq:kp (j+1+(i+1)) with
       |true=>
        rw[hkq,Bool.not_true] at hcg
        go_wp2_with fail
        go_quiet_grown (first|(go_at_fn g;refine Calls.grown_of<|hcg _ _))
        have SW3:Aside (SWK enc k w blk off dk<|grow (wr.drewN nq) osq):=SW2.out.grown nq osq;have l3:=lu nq osq;clear lu lv hcg SW2
        generalize grow (wr.drewN nq) osq=wq at SW3 l3⊢
        have n3:cu.length=k:=by rw[<-GU.out.2];exact RR.out.hk _
        have s3:Sem.run P (storeCells ⟨blk,off+kk*k,none⟩ cu 0) wq= .ok () (wq.setCells blk (off+kk*k) cu):=by
         rw[<-GU.out.2];exact stores_of_holds P (SW3.out.holds RR.out.hblk RR.out.hH (by rw[hdk,hd0])) (kk*k) _ (by rw[RR.out.hk,size_flatK];exact rowK_bnd dk k kk (by omega))<|RR.out.h1 _
        have kz1:(kk:Int)<(n:Int):=by omega
        go_wp2
        go_roundg (n-(j+1+(i+1+1)))
        case measure=>omega
        case rel=>exact⟨kk+1,i+1+1,dk.setIfInBounds kk ⟨j+1+(i+1),hlt2⟩,by first|rfl|go_num,by first|rfl|go_num,by omega,by omega,Nat.le_refl _,by
         show SWK _ _ _ _ _ _ _;rw[<-GU.out.2];exact Trn.RS SW3.out RR.out.hk RR.out.hblk (by omega) _,CI.out.lr hlt2 hkq,by omega⟩
       |false=>
        rw[hkq,Bool.not_false] at hcg
        go_wp2_with fail
        go_quiet_grown (first|(go_at_fn g;refine Calls.grown_of<|hcg _ _))
        have SW3:Aside (SWK enc k w blk off dk<|grow (wr.drewN nq) osq):=SW2.out.grown nq osq;clear lu lv hcg SW2
        generalize grow (wr.drewN nq) osq=wq at SW3⊢
        go_wp2
        go_roundg (n-(j+1+(i+1+1)))
        case measure=>omega
        case rel=>exact⟨kk,i+1+1,dk,rfl,by first|rfl|go_num,by omega,by omega,Nat.le_refl _,SW3,CI.out.skip hkq,by omega⟩
      ·have hend:j+1+k2=n:=by omega
       have hcl:∀ty,(Builtin.clear_ #[184] ty #[.slice (some ⟨blk,off+kk*k,none⟩) (n-kk)<|cap-kk]).run P wr= .ok (.tuple #[]) (wr.setCells blk (off+kk*k) (Builtin.zeroCells zv.cells<|n-kk).toList):=fun ty=>
        Trn.xt t184 v144 hz1 (SW2.out.holds RR.out.hblk RR.out.hH (by rw[hdk,hd0])) (by rw[hzs,size_flatK,hdk,<-Nat.add_mul];exact Nat.mul_le_mul_right k (by omega)) (by omega)
       have kz1:(kk:Int)<=(n:Int):=by omega
       have hzl:(Builtin.zeroCells zv.cells<|n-kk).toList.length<=(n-kk)*k:=by rw[Trn.we,hzs];exact Nat.le_refl _
       generalize (Builtin.zeroCells zv.cells<|n-kk).toList=zl at hcl hzl
       clear v144 hzs hz1
       go_wp2
       go_ret
       have C:=CI.out;rw[hend] at C;exact⟨kk,dk,zl,wr,rfl,C.len<|Nat.le_refl _,SW2.out,hdk,C.low,rfl,hzl⟩
   ·have:kx=n:=by omega
    subst this
    go_wp2
    go_ret
    exact ALL.out wr SW.out HA.out
set_option maxHeartbeats 4000000 in
set_option maxRecDepth 1000000 in
theorem Xs(p:Option Addr)(m:Nat)(hm:m<2)(cap:Nat)(fv:Value)(w:World):Calls prog 181 #[.slice p m cap,fv] w fun e w'=>e= .returned (.slice p m cap)/\w'=w:=by
 go_enter func181,ntmps181
 go_wp2
 go_ret
 exact⟨rfl,rfl⟩
set_option maxHeartbeats 4000000 in
set_option maxRecDepth 1000000 in
theorem Xo(F:P.funcs[368]? =some f368)(mixed:P.follows .mixedOrders=true)(t0:P.underlying 0=prog.underlying 0)(t3:P.underlying 3=some (.int .i64))(a3:∀w,(isAgg 3).run P w= .ok false w)(z3:∀w,(Go.sizeOf 3).run P w= .ok 1 w)(v3:∀w,(zeroValue 3).run P w= .ok (.int .i64 0) w)(t4:P.underlying 4=some .bool)(a4:∀w,(isAgg 4).run P w= .ok false w)(z4:∀w,(Go.sizeOf 4).run P w= .ok 1 w)(t185:P.underlying 185=some (.slice 102))(a185:∀w,(isAgg 185).run P w= .ok false w)(z185:∀w,(Go.sizeOf 185).run P w= .ok 1 w)
 (a102:∀w,(isAgg 102).run P w= .ok true w)(z102:∀w,(Go.sizeOf 102).run P w= .ok k w)(zv:Value)(v102:∀w,(zeroValue 102).run P w= .ok zv w)(hzs:zv.cells.size=k)(hz1:∀v∈zv.cells.toList,v.oneCell'=true)[Inhabited<|Fin n](enc:Fin n->List Value)(hk:∀x,(enc x).length=k)(h1:∀x,∀v∈enc x,v.oneCell'=true)(g:Nat)(cb:Array Value)(kp:Nat->Bool)(k0:kp 0=true)(blk off cap:Nat)(w:World)
 (eg:∀args w,(callFunc g args).run P w= .ok (.enter g args) w)(hH:HoldsK enc k w blk off (Array.ofFn fun i:Fin n=>i))(hblk:blk<w.heap.size)(hcap:n<=cap)(hsz:n<=9223372036854775807)
 (hcmp:∀(m:Nat) (os:Array Obj) (dk:Array (Fin n)) (j:Nat) (hj:j+1<n),Calls P g (#[.agg (enc ⟨j+1,hj⟩).toArray,.agg (enc ⟨j,Nat.lt_of_succ_lt hj⟩).toArray]++cb) (sortWorldK enc k w blk off m dk os) fun e w'=>e= .returned (.bool<| !kp (j+1))/\∃q os',w'=grow ((sortWorldK enc k w blk off m dk os).drewN q) os'):
  Calls P 368 #[.slice (some ⟨blk,off,none⟩) n cap,.func (.func g) #[] cb] w fun e w'=>∃kk dk zs W,e= .returned (.slice (some ⟨blk,off,none⟩) kk cap)/\kk=((List.range n).filter kp).length/\SWK enc k w blk off dk W/\dk.size=n/\(dk.toList.take kk).map (·.val)=(List.range n).filter kp/\w'=W.setCells blk (off+kk*k) zs/\zs.length<=(n-kk)*k:=by
 have kz:∀j,j<1->kp j=true:=fun j hj=>by
  obtain rfl:j=0:=by omega
  exact k0
 have hpos:0<n:=Fin.pos default;have hd0:(Array.ofFn fun i:Fin n=>i).size=n:=Array.size_ofFn;have S0:Aside (SWK enc k w blk off (Array.ofFn fun i:Fin n=>i) w):=SWK.start hH;have RR:Aside (RowK enc k w blk off (Array.ofFn fun i:Fin n=>i)):=⟨hk,h1,hH,hblk⟩;have CM:Aside (∀(m:Nat) (os:Array Obj) (dk:Array (Fin n)) (j:Nat) (hj:j+1<n),Calls P g (#[.agg (enc ⟨j+1,hj⟩).toArray,.agg (enc ⟨j,Nat.lt_of_succ_lt hj⟩).toArray]++cb) (sortWorldK enc k w blk off m dk os) fun e w'=>e= .returned (.bool<| !kp (j+1))/\∃q os',w'=grow ((sortWorldK enc k w blk off m dk os).drewN q) os'):=hcmp;clear hH hk h1 hcmp;have all:∀W,SWK enc k w blk off (Array.ofFn fun i:Fin n=>i) W->(∀j,j<n->kp j=true)->∃kk dk zs W',(Ending.returned<| .slice (some ⟨blk,off,none⟩) n cap)= .returned (.slice (some ⟨blk,off,none⟩) kk cap)/\kk=((List.range n).filter kp).length/\SWK enc k w blk off dk W'/\dk.size=n/\(dk.toList.take kk).map (·.val)=(List.range n).filter kp/\W=W'.setCells blk (off+kk*k) zs/\zs.length<=(n-kk)*k:=fun W hW hall=>by
  have e:(List.range n).filter kp=List.range n:=List.filter_eq_self.2 fun j hj=>hall j<|List.mem_range.1 hj
  refine⟨n,_,[],W,rfl,by rw[e];simp,hW,hd0,?_,rfl,Nat.zero_le _⟩;rw[e,Array.toList_ofFn];apply List.ext_getElem
  ·simp
  ·intro i h1 h2;simp
 have ALL:Aside (∀W,SWK enc k w blk off (Array.ofFn fun i:Fin n=>i) W->(∀j,j<n->kp j=true)->∃kk dk zs W',(Ending.returned<| .slice (some ⟨blk,off,none⟩) n cap)= .returned (.slice (some ⟨blk,off,none⟩) kk cap)/\kk=((List.range n).filter kp).length/\SWK enc k w blk off dk W'/\dk.size=n/\(dk.toList.take kk).map (·.val)=(List.range n).filter kp/\W=W'.setCells blk (off+kk*k) zs/\zs.length<=(n-kk)*k):=all;clear all;by_cases h2:n<2
 ·go_enter F,ntmps368
  go_wp2
  go_ret
  exact ALL.out w S0.out fun j hj=>kz j (by omega)
 ·go_enter F,ntmps368
  go_wp2
  go_loopg [5] n (fun gg s5 wr=>∃kx:Nat,1<=kx/\kx<=n/\n-kx<=gg/\s5= .int .i64 kx/\Aside (SWK enc k w blk off (Array.ofFn fun i:Fin n=>i) wr)/\Aside (∀j,j<kx->kp j=true))
  case atStart=>exact⟨1,Nat.le_refl _,by omega,by omega,by first|rfl|go_num,S0,kz⟩
  case round=>
   clear S0;obtain⟨kx,hk1,hkn,hg,rfl,SW,HA⟩:=hrel;by_cases hlt:kx<n
   ·obtain⟨j,rfl⟩:∃j,kx=j+1:=⟨kx-1,by omega⟩;have jz:(j:Int)+1<(n:Int):=by omega
    have jz1:(j:Int)<(n:Int):=by omega
    have p0:(0:Int)<=(j:Int)+1:=by omega
    have e0:((j:Int)+1).toNat=j+1:=by omega
    have hwp:IntKind.i64.wrap (j:Int)=(j:Int):=by rw[IntKind.wrap_i64];omega
    obtain⟨cx,hcx⟩:∃c,(enc ⟨j+1,hlt⟩).toArray=c:=⟨_,rfl⟩;obtain⟨cy,hcy⟩:∃c,(enc ⟨j,Nat.lt_of_succ_lt hlt⟩).toArray=c:=⟨_,rfl⟩;have lj:∀n' os',Sem.run P (loadCellsFrom ⟨blk,off+(j+1)*k,none⟩ 0 k #[]) (grow (wr.drewN n') os')= .ok cx (grow (wr.drewN n') os'):=fun n' os'=>by
     have:=SW.out.ld RR.out (by rw[hd0]) P (j+1) (by rw[hd0];exact hlt) n' os';rw[this,<-hcx,getElem!_pos _ _ (by rw[hd0];exact hlt)];simp
    have lp:∀n' os',Sem.run P (loadCellsFrom ⟨blk,off+j*k,none⟩ 0 k #[]) (grow (wr.drewN n') os')= .ok cy (grow (wr.drewN n') os'):=fun n' os'=>by
     have:=SW.out.ld RR.out (by rw[hd0]) P j (by rw[hd0];omega) n' os';rw[this,<-hcy,getElem!_pos _ _ (by rw[hd0];omega)];simp
    have hcg:∀n' os',Calls P g (#[.agg cx,.agg cy]++cb) (grow (wr.drewN n') os') fun e w'=>e= .returned (.bool<| !kp (j+1))/\∃q os'',w'=grow ((grow (wr.drewN n') os').drewN q) os'':=fun n' os'=>by
     obtain⟨m,os0,hw⟩:=SW.out.grown n' os';rw[hw,<-hcx,<-hcy];exact CM.out m os0 _ j hlt
    cases hkp:kp (j+1) with
    |true=>
     rw[hkp,Bool.not_true] at hcg
     go_wp2_with fail
     go_quiet_grown (first|(go_at_fn g;refine Calls.grown_of<|hcg _ _))
     go_wp2
     go_roundg (n-(j+1+1))
     case measure=>omega
     case rel=>exact⟨j+1+1,by omega,by omega,Nat.le_refl _,by first|rfl|go_num,SW.out.grown nq osq,fun i hi=>by
      rcases Nat.lt_or_ge i (j+1) with h|h
      ·exact HA.out i h
      ·have:i=j+1:=by omega
       rw[this];exact hkp⟩
    |false=>
     rw[hkp,Bool.not_false] at hcg
     go_wp2_with fail
     go_quiet_grown (first|(go_at_fn g;refine Calls.grown_of<|hcg _ _))
     have SW1:Aside (SWK enc k w blk off (Array.ofFn fun i:Fin n=>i)<|grow (wr.drewN nq) osq):=SW.out.grown nq osq;clear lj lp hcg
     generalize grow (wr.drewN nq) osq=wq at SW1⊢
     go_wp2
     go_loopg [5,7] n (fun gg s5 s7 wr=>∃(kk k2:Nat) (dk:Array (Fin n)),s5= .int .i64 kk/\s7= .int .i64 k2/\1<=k2/\j+1+k2<=n/\n-(j+1+k2)<=gg/\Aside (SWK enc k w blk off dk wr)/\Aside (Trn.Gl n kp (j+1+k2) kk dk)/\kk<j+1+k2)
     case atStart=>exact⟨j+1,1,_,by first|rfl|go_num,rfl,Nat.le_refl _,by omega,by omega,SW1,Trn.Gl.start hlt HA.out hkp,by omega⟩
     case round=>
      clear SW1;obtain⟨kk,k2,dk,rfl,rfl,h21,hle,hg2,SW2,CI,hkk⟩:=hrel;have hdk:dk.size=n:=CI.out.size;by_cases hlt2:j+1+k2<n
      ·obtain⟨i,rfl⟩:∃i,k2=i+1:=⟨k2-1,by omega⟩;have iz:(i:Int)+1<((n-(j+1):Nat):Int):=by omega
       have iz1:(i:Int)<((n-(j+1):Nat):Int):=by omega
       have q0:(0:Int)<=(i:Int)+1:=by omega
       have f0:((i:Int)+1).toNat=i+1:=by omega
       have hwq:IntKind.i64.wrap (i:Int)=(i:Int):=by rw[IntKind.wrap_i64];omega
       have ea:off+(j+1)*k+(i+1)*k=off+(j+1+(i+1))*k:=by rw[Nat.add_assoc,<-Nat.add_mul]
       have eb:off+(j+1)*k+i*k=off+(j+1+i)*k:=by rw[Nat.add_assoc,<-Nat.add_mul]
       have ga:dk[j+1+(i+1)]! =⟨j+1+(i+1),hlt2⟩:=by rw[getElem!_pos dk _ (by omega)];exact CI.out.high _ hlt2 (by omega) _
       have gb:dk[j+1+i]! =⟨j+1+i,Nat.lt_of_succ_lt hlt2⟩:=by rw[getElem!_pos dk _ (by omega)];exact CI.out.high (j+1+i) (Nat.lt_of_succ_lt hlt2) (show j+1+(i+1)-1<=j+1+i by omega) _
       obtain⟨cu,hcu⟩:∃c,enc ⟨j+1+(i+1),hlt2⟩=c:=⟨_,rfl⟩;obtain⟨cv,hcv⟩:∃c,enc ⟨j+1+i,Nat.lt_of_succ_lt hlt2⟩=c:=⟨_,rfl⟩;have lu:∀n' os',Sem.run P (loadCellsFrom ⟨blk,off+(j+1)*k+(i+1)*k,none⟩ 0 k #[]) (grow (wr.drewN n') os')= .ok cu.toArray (grow (wr.drewN n') os'):=fun n' os'=>by
        have:=SW2.out.ld RR.out (by rw[hd0];exact hdk) P (j+1+(i+1)) (by omega) n' os';rw[ea,this,ga,hcu]
       have lv:∀n' os',Sem.run P (loadCellsFrom ⟨blk,off+(j+1)*k+i*k,none⟩ 0 k #[]) (grow (wr.drewN n') os')= .ok cv.toArray (grow (wr.drewN n') os'):=fun n' os'=>by
        have:=SW2.out.ld RR.out (by rw[hd0];exact hdk) P (j+1+i) (by omega) n' os';rw[eb,this,gb,hcv]
       have hcg:∀n' os',Calls P g (#[.agg cu.toArray,.agg cv.toArray]++cb) (grow (wr.drewN n') os') fun e w'=>e= .returned (.bool<| !kp (j+1+(i+1)))/\∃q os'',w'=grow ((grow (wr.drewN n') os').drewN q) os'':=fun n' os'=>by
        obtain⟨m,os0,hw⟩:=SW2.out.grown n' os';rw[hw,<-hcu,<-hcv];exact CM.out m os0 dk (j+1+i) hlt2
       have GU:Aside (dk[j+1+(i+1)]! =⟨j+1+(i+1),hlt2⟩/\enc ⟨j+1+(i+1),hlt2⟩=cu):=⟨ga,hcu⟩;clear ea eb ga gb hcu hcv;cases hkq:kp (j+1+(i+1)) with
       |true=>
        rw[hkq,Bool.not_true] at hcg
        go_wp2_with fail
        go_quiet_grown (first|(go_at_fn g;refine Calls.grown_of<|hcg _ _))
        have SW3:Aside (SWK enc k w blk off dk<|grow (wr.drewN nq) osq):=SW2.out.grown nq osq;have l3:=lu nq osq;clear lu lv hcg SW2
        generalize grow (wr.drewN nq) osq=wq at SW3 l3⊢
        have n3:cu.length=k:=by rw[<-GU.out.2];exact RR.out.hk _
        have s3:Sem.run P (storeCells ⟨blk,off+kk*k,none⟩ cu 0) wq= .ok () (wq.setCells blk (off+kk*k) cu):=by
         rw[<-GU.out.2];exact stores_of_holds P (SW3.out.holds RR.out.hblk RR.out.hH (by rw[hdk,hd0])) (kk*k) _ (by rw[RR.out.hk,size_flatK];exact rowK_bnd dk k kk (by omega))<|RR.out.h1 _
        have kz1:(kk:Int)<(n:Int):=by omega
        go_wp2
        go_roundg (n-(j+1+(i+1+1)))
        case measure=>omega
        case rel=>exact⟨kk+1,i+1+1,dk.setIfInBounds kk ⟨j+1+(i+1),hlt2⟩,by first|rfl|go_num,by first|rfl|go_num,by omega,by omega,Nat.le_refl _,by
         show SWK _ _ _ _ _ _ _;rw[<-GU.out.2];exact Trn.RS SW3.out RR.out.hk RR.out.hblk (by omega) _,CI.out.lr hlt2 hkq,by omega⟩
       |false=>
        rw[hkq,Bool.not_false] at hcg
        go_wp2_with fail
        go_quiet_grown (first|(go_at_fn g;refine Calls.grown_of<|hcg _ _))
        have SW3:Aside (SWK enc k w blk off dk<|grow (wr.drewN nq) osq):=SW2.out.grown nq osq;clear lu lv hcg SW2
        generalize grow (wr.drewN nq) osq=wq at SW3⊢
        go_wp2
        go_roundg (n-(j+1+(i+1+1)))
        case measure=>omega
        case rel=>exact⟨kk,i+1+1,dk,rfl,by first|rfl|go_num,by omega,by omega,Nat.le_refl _,SW3,CI.out.skip hkq,by omega⟩
      ·have hend:j+1+k2=n:=by omega
       have hcl:∀ty,(Builtin.clear_ #[185] ty #[.slice (some ⟨blk,off+kk*k,none⟩) (n-kk)<|cap-kk]).run P wr= .ok (.tuple #[]) (wr.setCells blk (off+kk*k) (Builtin.zeroCells zv.cells<|n-kk).toList):=fun ty=>
        Trn.xt t185 v102 hz1 (SW2.out.holds RR.out.hblk RR.out.hH (by rw[hdk,hd0])) (by rw[hzs,size_flatK,hdk,<-Nat.add_mul];exact Nat.mul_le_mul_right k (by omega)) (by omega)
       have kz1:(kk:Int)<=(n:Int):=by omega
       have hzl:(Builtin.zeroCells zv.cells<|n-kk).toList.length<=(n-kk)*k:=by rw[Trn.we,hzs];exact Nat.le_refl _
       generalize (Builtin.zeroCells zv.cells<|n-kk).toList=zl at hcl hzl
       clear v102 hzs hz1
       go_wp2
       go_ret
       have C:=CI.out;rw[hend] at C;exact⟨kk,dk,zl,wr,rfl,C.len<|Nat.le_refl _,SW2.out,hdk,C.low,rfl,hzl⟩
   ·have:kx=n:=by omega
    subst this
    go_wp2
    go_ret
    exact ALL.out wr SW.out HA.out
set_option maxHeartbeats 4000000 in
set_option maxRecDepth 1000000 in
theorem Xr(p:Option Addr)(m:Nat)(hm:m<2)(cap:Nat)(fv:Value)(w:World):Calls prog 368 #[.slice p m cap,fv] w fun e w'=>e= .returned (.slice p m cap)/\w'=w:=by
 go_enter func368,ntmps368
 go_wp2
 go_ret
 exact⟨rfl,rfl⟩
end
end Te
namespace Trn
section
open Go.Shelf Go.Sort
variable[D:DR]
variable{α:Type}{blk:Nat}
def flags{α:Type}(l:asv α)(bs:asv Bool):asv α:=((l.zip bs).filter (·.2)).map (·.1)
theorem Ps{α:Type}{e:α->α->auz Bool}:∀{l:asv α} {x:α} {r:asv α},ad9 e x l=some r->∃bs:asv Bool,bs.length=l.length/\(∀j (hj:j<l.length) (h2:j<(x::l).length) (h3:j<bs.length),e l[j] (x::l)[j]=some (!bs[j]))/\r=flags l bs
 |[],x,r,h=>by
  cases h;exact⟨[],rfl,fun j hj=>absurd hj<|Nat.not_lt_zero _,rfl⟩
 |y::l,x,r,h=>by
  obtain⟨b,hb,h⟩:=qm h;obtain⟨r',hr,h⟩:=qm h;obtain⟨bs,h1,h2,h3⟩:=Ps hr;have h:=fG h;refine⟨(!b)::bs,by simp[h1],fun j hj hj2 hj3=>?_,?_⟩
  ·cases j with
   |zero=>simpa using hb
   |succ j=>exact h2 j (by simpa using hj) (by simp at hj⊢;omega) (by simpa using hj3)
  ·rw[<-h,h3];cases b<;>simp[flags]
theorem Ly{α:Type}:∀{l:asv α} {bs:asv Bool},bs.length=l.length->((List.range l.length).filter fun j=>bs.getD j true).map (fun j=>l[j]?)=(flags l bs).map some
 |[],[],_=>rfl
 |[],_::_,h=>by simp at h
 |_::_,[],h=>by simp at h
 |x::l,b::bs,h=>by
  have ih:=Ly (l:=l) (bs:=bs) (by simpa using h);rw[List.length_cons,List.range_succ_eq_map,List.filter_cons,List.filter_map];have e:(fun j=>(b::bs).getD j true)∘Nat.succ=fun j=>bs.getD j true:=by funext j;simp
  rw[e];have e2:(((List.range l.length).filter fun j=>bs.getD j true).map Nat.succ).map (fun j=>(x::l)[j]?)=(flags l bs).map some:=by
   rw[<-ih,Jn];apply List.map_congr_left;intro j _;simp
  cases b
  ·simpa[flags] using e2
  ·simpa[flags] using e2
theorem Qs{l r:asv α}{c:α×α->auz Bool}(h:kC l c=some r):∃kp:Nat->Bool,kp 0=true/\(∀j (hj:j+1<l.length),c (l[j+1],l[j])=some (!kp (j+1)))/\((List.range l.length).filter kp).map (fun j=>l[j]?)=r.map some:=by
 cases l with
 |nil=>cases h;exact⟨fun _=>true,rfl,fun j hj=>absurd hj<|Nat.not_lt_zero _,rfl⟩
 |cons x l=>
  obtain⟨r',hr,h⟩:=qm h;have h:=fG h;obtain⟨bs,h1,h2,h3⟩:=Ps hr;refine⟨fun j=>(true::bs).getD j true,rfl,fun j hj=>?_,?_⟩
  ·have hj':j<l.length:=by simpa using hj
   have:=h2 j hj' (by simp;omega) (by omega);simp only[List.getElem_cons_succ,List.getD_cons_succ];rw[iw,kQ (by omega)];exact this
  ·rw[Ly (l:=x::l) (bs:=true::bs) (by simp[h1]),<-h,h3];simp[flags]
theorem KM{W:aq5}{o:Nat}{cur:auA aq6}{E:asr}{fr:Nat×Nat}{v:aq6}(h:W.heap[blk]? =some (.cells cur E fr)):(W.setCell ⟨blk,o,none⟩ v).heap[blk]? =some (.cells (cur.setIfInBounds o v) E fr):=by
 simp[World.setCell,CV,h]
theorem AK{blk:Nat}{E:asr}{fr:Nat×Nat}:∀{vs:asv aq6} {W:aq5} {o:Nat} {cur:auA aq6},W.heap[blk]? =some (.cells cur E fr)->(W.setCells blk o vs).heap[blk]? =some (.cells (setMany cur o vs) E fr)
 |[],_,_,_,h=>h
 |v::vs,W,o,cur,h=>AK (vs:=vs)<|KM h
theorem JN{blk:Nat}:∀{vs:asv aq6} {W:aq5} {o:Nat},AO W (W.setCells blk o vs) (some blk)
 |[],W,o=>⟨⟨rfl,rfl,rfl,bG _,fun _ _ _=>rfl⟩,bG _⟩
 |v::vs,W,o=>by
  have h:=JN (blk:=blk) (vs:=vs) (W:=W.setCell ⟨blk,o,none⟩ v) (o:=o+1);refine⟨⟨h.os,h.tape,h.output,fZ (by simp[World.setCell]) h.size,fun k hk hne=>?_⟩,h.drawn⟩;have h1:=h.block k (by simpa[World.setCell] using hk) hne;show(World.setCells _ blk (o+1) vs).heap[k]? =_;rw[h1];exact Below.heap_setCell _ _ _ _ (fun e=>hne (by rw[e]))
theorem Is{m:Nat}:∀{vs:asv aq6} {F:auA aq6} {s:Nat},m<=s->(setMany F s vs).toList.take m=F.toList.take m
 |[],_,_,_=>rfl
 |v::vs,F,s,h=>by
  rw[setMany,Is (vs:=vs) (by omega),M4,List.take_set_of_le h]
theorem O8[Inhabited α]{enc:α->asv aq6}{k:Nat}{w:aq5}{m:Nat}{dk:auA α}{os:auA Obj}:AO w (sortWorldK enc k w blk 0 m dk os) (some blk):=by
 refine⟨⟨rfl,rfl,rfl,xq,fun i hi hne=>o0 hi (fun e=>hne (by rw[e]))⟩,?_⟩;refine HU.of ?_;show w.drawn<=(sortWorldK _ k w blk 0 m dk os).drawn;unfold sortWorldK Go.Sort.grow Go.Sort.putRowK Go.Sort.putRow Go.Sort.mapBlock Go.Sort.ahead;exact CR _ _
theorem AO.trans{w w1 w2:aq5}{row:auz Nat}(h:AO w w1 row)(k:AO w1 w2 row):AO w w2 row:=
 ⟨⟨k.os.trans h.os,k.tape.trans h.tape,k.output.trans h.output,fZ h.size k.size,fun i hi hne=>(k.block i (oF hi h.size) hne).trans<|h.block i hi hne⟩,fZ h.drawn k.drawn⟩
end
section
open Go.Shelf Go.Sort
variable[D:DR]
variable{P:Program}{A:Type}{τ:A->Ty}{k:Nat}{c:A×A->Option Bool}{f E:Nat}
theorem Dd(hc:eN P f=true)(hn:∀a,(τ a).n=k)(ha:∀a,(τ a).agg=true)
  (adh:∀(p:auz Addr) (m:Nat) (hm:m<2) (cap:Nat) (fv:aq6) (w:aq5),Calls P f #[.slice p m cap,fv] w fun e w'=>e= .returned (.slice p m cap)/\w'=w)
  (alH:∀{n:Nat} [Inhabited<|Fin n] (enc:Fin n->asv aq6) (hk:∀x,(enc x).length=k) (h1:∀x,∀v∈enc x,v.oneCell'=true) (g:Nat) (cb:auA aq6) (kp:Nat->Bool) (k0:kp 0=true) (blk off cap:Nat) (w:aq5)
   (eg:∀args w,(callFunc g args).run P w= .ok (.enter g args) w) (hH:HoldsK enc k w blk off (Array.ofFn fun i:Fin n=>i)) (hblk:blk<w.heap.size) (hcap:n<=cap) (hsz:n<=9223372036854775807)
   (hcmp:∀(m:Nat) (os:auA Obj) (dk:auA (Fin n)) (j:Nat) (hj:j+1<n),Calls P g (#[.agg (enc ⟨j+1,hj⟩).toArray,.agg (enc ⟨j,Nat.lt_of_succ_lt hj⟩).toArray]++cb) (sortWorldK enc k w blk off m dk os) fun e w'=>e= .returned (.bool<| !kp (j+1))/\∃q os',w'=Go.Sort.grow ((sortWorldK enc k w blk off m dk os).drewN q) os'),
   Calls P f #[.slice (some ⟨blk,off,none⟩) n cap,.func (.func g) #[] cb] w fun e w'=>∃kk dk zs W,e= .returned (.slice (some ⟨blk,off,none⟩) kk cap)/\kk=((List.range n).filter kp).length/\SWK enc k w blk off dk W/\dk.size=n/\(dk.toList.take kk).map (·.val)=(List.range n).filter kp/\w'=W.setCells blk (off+kk*k) zs/\zs.length<=(n-kk)*k)
  {l r:asv A}(hm:kC l c=some r):AP P f E k (lT τ l) [Gk P (fun x:A×A=>[τ x.1,τ x.2]) (fun x:Bool=>[aZ x]) c] (lT τ r):=by
 obtain⟨kp,hk0,hkp,hkr⟩:=Qs hm;refine⟨hc,fun w H v xs vs sub gl hown gS hH hvs=>?_⟩;obtain⟨fv,rfl,hfv⟩:=tT hvs;obtain⟨g,cap,pL,rfl,JJ,hf⟩:=hfv;have hlen:(lT τ l).length=l.length:=gG ..;rw[hlen] at hown;by_cases hl0:l.length<2
 ·have hr:r=l:=by
   match l,hl0 with
   |[],_=>cases hm;rfl
   |[x],_=>cases hm;rfl
   |a::b::t,h=>simp only[List.length_cons] at h;omega
  subst hr;obtain⟨p,lA,rfl⟩:∃p lA,v= .slice p r.length lA:=by
   rcases hown.2 with⟨hv,h0⟩|⟨g,cap,cur,hv,_⟩
   ·exact⟨_,_,by rw[hv,h0]⟩
   ·exact⟨_,_,hv⟩
  refine(adh p r.length hl0 lA _ w).mono ?_;rintro e w' ⟨rfl,rfl⟩;exact⟨_,rfl,⟨⟨rfl,rfl,rfl,bG _,fun _ _ _=>rfl⟩,bG _⟩,xs,by rw[hlen];exact hown,gS,fun b hb=>hb⟩
 ·have hpos:0<l.length:=by omega
  obtain⟨blk,lA,cur,rfl,hblk,hnc,hcm,hcs,htake⟩:∃blk lA cur,v= .slice (some ⟨blk,0,.none⟩) l.length lA/\w.heap[blk]? =some (.cells cur E (0,0))/\l.length<=lA/\lA<=maxLen/\cur.size=lA*k/\cur.toList.take (l.length*k)=xs:=by
   rcases hown.2 with⟨_,hz⟩|⟨g,cap,cur,hv,_,r⟩
   ·omega
   ·exact⟨g,cap,cur,hv,r⟩
  haveI:Inhabited (Fin l.length):=⟨⟨0,hpos⟩⟩
  obtain⟨GS,SS⟩:=pX hn ha gS;have hB:H blk= .none:=hH blk rfl;have Xa:∀j (hj:j+1<l.length),eN P g=true:=fun j hj=>fC.can (D:=DR.strict)<|hf _ _<|hkp j hj
  have main:=alH (fun i:Fin l.length=>chunk k xs i) (fun i=>qU GS i.2) (fun i u hu=>wY gS u<|zK<|vV hu) g cap kp hk0 blk 0 lA w
   (fun args w=>jX (Xa 0 (by omega)) args w) (C3 GS hblk htake) (lt_of_heap hblk) hnc (fZ hnc hcm)
   (fun m os dk j hj=>ag3 (off:=0) hn ha gS sub gl hB JJ hf m os dk ⟨j+1,hj⟩ ⟨j,Nat.lt_of_succ_lt hj⟩<|hkp j hj)
  refine main.mono ?_;rintro e w' ⟨kk,dk,zs,W,rfl,hkk,⟨m,os,rfl⟩,hdk,W5,rfl,hzs⟩;have hlr:(dk.toList.take kk).map (fun i=>l[i])=r:=by
   have h1:((dk.toList.take kk).map fun i=>l[i]).map some=r.map some:=by
    rw[<-hkr,<-W5,Jn,Jn];apply List.map_congr_left;intro i _;simp
   exact(List.map_inj_right<|fun a b h=>fG h).1 h1
  have Qn:kk<=l.length:=by
   rw[hkk];exact fZ (List.length_filter_le ..) (by simp)
  have hrk:r.length=kk:=by rw[<-hlr,gG,List.length_take,gN,hdk];omega
  have Tp:(flatK (fun i:Fin l.length=>chunk k xs i) k dk).size=l.length*k:=by rw[size_flatK,hdk]
  have hle:l.length*k<=cur.size:=by rw[hcs];exact nE k hnc
  have hkm:kk*k<=l.length*k:=nE k Qn;have uD:=AK (vs:=zs) (o:=0+kk*k)<|yd (enc:=fun i:Fin l.length=>chunk k xs i) (k:=k) (m:=m) (dk:=dk) (os:=os) hblk
  have SQ:=GG (α:=Fin l.length) (d:=flatK (fun i:Fin l.length=>chunk k xs i) k dk) (cur:=cur) (by rw[Tp];exact hle);rw[Tp] at SQ;refine⟨_,rfl,O8.trans JN,(flatK (fun i:Fin l.length=>chunk k xs i) k dk).toList.take<|kk*k,?_,?_,fun b hb=>hb⟩
  ·rw[gG,hrk];refine⟨by rw[List.length_take,gN,Tp];exact fW hkm,.inr ⟨blk,lA,_,rfl,jv _,uD,by omega,hcm,?_,?_⟩⟩
   ·rw[size_setMany,<-hcs];simp[Go.Sort.putCells]
   ·rw[Is (by omega),<-SQ,vR,fW hkm]
  ·refine wv (by rw[List.length_take,gN,Tp,hrk];exact fW hkm) fun i hi=>?_
   have YQ:i<dk.size:=by omega
   have ec:chunk k ((flatK (fun i:Fin l.length=>chunk k xs i) k dk).toList.take<|kk*k) i=chunk k (flatK (fun i:Fin l.length=>chunk k xs i) k dk).toList i:=by
    have hb:i*k+k<=kk*k:=by
     have:=nE k (show i+1<=kk by omega);rwa [pg,uw] at this
    unfold chunk;rw[um,vR,fW (by rw[Nat.le_sub_iff_add_le (by omega)];omega)]
   rw[ec,HB (fun i=>qU GS i.2) YQ,ph dk i YQ];have e:r[i]=l[dk[i]]:=by
    have:r[i]? =((dk.toList.take kk).map fun i=>l[i])[i]? :=by rw[hlr]
    rw[kQ hi,nS,Bi,if_pos (by omega),vX,FM YQ] at this;simpa using this
   rw[e];exact SS _ dk[i].2
end
section
variable{l:asv Int}{n:Nat}{x:Int}{ρ:Type}{R:ρ->Prop}{y q:Int}{s:Nat}{a:asv Int}{y1 y0 N d r:Int}{α:Type}{m:Nat}{b:asv Int}{K:α->auz ρ}{X Y u0 v0 v1 P UL VL U2:Int}
def Yd{ρ:Type}(R:ρ->Prop)(o:auz ρ):Prop:=∃r,o=some r/\R r
def Yd.mk{x:ρ}(h:R x):Yd R (some x):=⟨x,rfl,h⟩
def Yd.bd{α ρ:Type}{R:ρ->Prop}{e:auz α}{K:α->auz ρ}{x:α}(h:e=some x)(k:Yd R (K x)):Yd R (Trn.bd e K):=by subst h;exact k
def Yd.kD{S:α->Prop}{e:auz α}(h:Yd S e)(k:∀x,S x->Yd R (K x)):Yd R (Trn.bd e K):=by
 obtain⟨x,rfl,hx⟩:=h;exact k x hx
def Yd.cond{ρ:Type}{R:ρ->Prop}{b:Bool}{x y:auz ρ}(hx:b=true->Yd R x)(hy:b=false->Yd R y):Yd R (cond b x y):=by
 cases b
 ·exact hy rfl
 ·exact hx rfl
def Yd.gC{ρ:Type}{R:ρ->Prop}{b:Bool}{x:auz ρ}(hb:b=true)(hx:Yd R x):Yd R (Trn.gC b x):=by subst hb;exact hx
def Yd.fT{α ρ:Type}{R:ρ->Prop}{g:Bool}{d:α}{e:auz α}{K:α->auz ρ}(h1:g=true->∃x,e=some x/\Yd R (K x))(h2:g=false->Yd R (K d)):Yd R (Trn.fT g d e K):=by
 cases g
 ·exact h2 rfl
 ·obtain⟨x,rfl,h⟩:=h1 rfl;exact h
def Yd.jn{α ρ:Type}{R:ρ->Prop}(I:α->Prop){K:α->auz ρ}{E:(α->auz ρ)->auz ρ}(hK:∀s,I s->Yd R (K s))(hE:∀k,(∀s,I s->Yd R (k s))->Yd R (E k)):Yd R (Trn.jn K E):=hE K hK
def Yd.lp{σ ρ:Type}{R:ρ->Prop}{B:(σ->auz ρ)->σ->auz ρ}(I:σ->Prop)(μ:σ->Nat)(h:∀next s,I s->(∀s',I s'->μ s'<μ s->Yd R (next s'))->Yd R (B next s)):∀(F:Nat) (s:σ),I s->μ s<F->Yd R (Trn.lp F B s)
 |0,s,_,h=>by omega
 |F+1,s,hi,hm=>h _ s hi fun s' hi' hm'=>Yd.lp I μ h F s' hi' (by omega)
def Yd.imp{S:ρ->Prop}{o:auz ρ}(h:Yd R o)(k:∀r,R r->S r):Yd S o:=by
 obtain⟨r,e,hr⟩:=h;exact⟨r,e,k r hr⟩
def aM{n:Int}(h:DP n):aF n=some n:=by
 unfold DP at h;unfold aF B0;rw[bp h.1,bp h.2]
 rfl
def CY{i:Int}(h0:0<=i)(h1:i<l.length):bj l i=some (l.getD i.toNat 0):=by
 obtain⟨n,rfl⟩:=gQ h0;have h:n<l.length:=by omega
 show l[n]? =_;simp[h]
def b9(h:n<l.length):bj l (n:Int)=some (l.getD n 0):=by
 show l[n]? =_;simp[h]
def I2{b:Nat}{n:Int}{z:α}(h0:0<=n)(h1:b*n<=140737488355328)(hb:1<=b):WG b n z=some (List.replicate n.toNat z):=by
 obtain⟨m,rfl⟩:=gQ h0;have h2:(m:Int)<=(b:Int)*m:=by
  have:m*1<=m*b:=FJ _ hb;have:m<=b*m:=by rw[pF b m];omega
  exact_mod_cast this
 unfold WG;rw[bp h0,bp (show((m:Int)<=9223372036854775807) by omega),bp h1]
 rfl
def ke{l:asv α}{lo hi:Int}(h0:0<=lo)(h1:lo<=hi)(h2:hi<=l.length):iR l lo hi=some ((l.take hi.toNat).drop lo.toNat):=by
 unfold iR;rw[bp h0,bp h1,bp h2]
 rfl
def aio{k:IntKind}(h:0<=y):IB k x y=some (x.fdiv<|2^(min y.toNat k.bits)):=by
 unfold IB;rw[bU (by omega)]
 rfl
def aip{k:IntKind}(h:0<=y):IC k x y=some (k.wrap<|x*2^(min y.toNat k.bits)):=by
 unfold IC;rw[bU (by omega)]
 rfl
abbrev BB:Int:=18446744073709551616
def ie(n:Nat):Int:=BB^n
def Ew:ie 0=1:=rfl
def jY(n:Nat):ie (n+1)=BB*ie n:=by unfold ie;rw[Int.pow_succ,Int.mul_comm]
def oy:∀n,0<ie n
 |0=>by rw[Ew];omega
 |n+1=>by rw[jY];have:=oy n;unfold BB;omega
def Mz(m n:Nat):ie (m+n)=ie m*ie n:=by unfold ie;rw[Int.pow_add]
def mP(x:Int)(l:asv Int):aL (x::l)=x+BB*aL l:=rfl
def ti:∀(l m:asv Int),aL (l++m)=aL l+ie l.length*aL m
 |[],m=>by simp[aL,Ew]
 |x::l,m=>by
  rw[MO,mP,mP,ti l m,List.length_cons,jY,bC,fp];omega
def IX:okW []:=by intro x h;cases h
def rQ:okW (x::l)↔(0<=x/\x<BB)/\okW l:=by
 unfold okW;simp only[bP,forall_eq_or_imp]
def Ox{m:asv Int}:okW (l++m)↔okW l/\okW m:=by
 unfold okW;constructor
 ·exact fun h=>⟨fun x hx=>h x<|AI _ hx,fun x hx=>h x<|CD _ hx⟩
 ·rintro⟨h1,h2⟩ x hx;rcases mw.1 hx with h|h
  ·exact h1 x h
  ·exact h2 x h
def mV(h:okW l)(n:Nat):okW (l.take n):=fun x hx=>h x<|vV hx
def wX(h:okW l)(n:Nat):okW (l.drop n):=fun x hx=>h x<|zK hx
def fu(h:okW l)(n:Nat):0<=l.getD n 0/\l.getD n 0<BB:=by
 by_cases hn:n<l.length
 ·have:l.getD n 0=l[n]:=by simp[iw,hn]
  rw[this];exact h _<|rp hn
 ·have:l.getD n 0=0:=by simp[iw,hn]
  rw[this];unfold BB;omega
def o6(n:Nat):okW (List.replicate n 0):=fun x hx=>by
 rw[(List.mem_replicate.1 hx).2];omega
def mW(h:okW l)(n:Nat)(hx:0<=x/\x<BB):okW (l.set n x):=fun y hy=>by
 rcases List.mem_or_eq_of_mem_set hy with h'|h'
 ·exact h y h'
 ·subst h';exact hx
def y5:∀n,aL (List.replicate n 0)=0
 |0=>rfl
 |n+1=>by rw[List.replicate_succ,mP,y5 n];omega
def dU:∀{l:asv Int},okW l->0<=aL l/\aL l<ie l.length
 |[],_=>by simp[aL,Ew]
 |x::l,h=>by
  rw[rQ] at h;obtain⟨h1,h2⟩:=dU h.2;rw[mP,List.length_cons,jY];have:=h.1;unfold BB at*;omega
def tN(h:n<l.length):l.take (n+1)=l.take n++[l.getD n 0]:=by
 rw[MJ]
 congr 1
 simp[iw,h]
def pP(h:n<l.length):aL (l.take<|n+1)=aL (l.take n)+ie n*l.getD n 0:=by
 rw[tN h,ti,List.length_take,fW (by omega)];simp[aL]
def pQ(l:asv Int)(n:Nat)(h:n<=l.length):aL l=aL (l.take n)+ie n*aL (l.drop n):=by
 conv=>lhs;rw[<-zN n l]
 rw[ti,List.length_take,fW h]
def vr:∀{l:asv Int},okW l->l≠[]->l.getLast?≠some 0->ie (l.length-1)<=aL l
 |[],_,h,_=>absurd rfl h
 |[x],h,_,hl=>by
  rw[rQ] at h;have:x≠0:=fun e=>hl (by rw[e];rfl)
  simp[aL,Ew];omega
 |x::y::l,h,_,hl=>by
  rw[rQ] at h;have:=vr (l:=y::l) h.2 (by simp) (by simpa using hl);rw[mP,show(x::y::l).length-1=(y::l).length-1+1 from by simp,jY];have:=h.1;unfold BB at*;omega
def ZK(h:n<l.length)(x:Int):l.set n x=l.take n++x::l.drop (n+1):=by
 rw[List.set_eq_take_append_cons_drop,if_pos h]
def dK(h:n<=m)(x:Int):(l.set m x).take n=l.take n:=by
 rw[List.take_set_of_le h]
def getD_set_ne(h:n≠m)(x:Int):(l.set m x).getD n 0=l.getD n 0:=by
 simp[iw,List.getElem?_set_ne<|Ne.symm h]
def dR(h:n<l.length)(x:Int):(l.set n x).getD n 0=x:=by
 simp[iw,h]
def Norm(w:asv Int):Prop:=okW w/\w.getLast?≠some 0
def Norm.nil:Norm []:=⟨IX,by simp⟩
def Norm.len{w:asv Int}(h:Norm w)(hv:aL w<ie n):w.length<=n:=by
 by_cases h0:w=[]
 ·subst h0;simp
 ·have h1:=vr h.1 h0 h.2;rcases ln n w.length with h2|h2
  ·have:ie n<=ie (w.length-1):=by
    obtain⟨k,hk⟩:∃k,w.length-1=n+k:=⟨w.length-1-n,by omega⟩;rw[hk,Mz];have a:=oy n;have b:=oy k;have:ie n*1<=ie n*ie k:=kc (by omega) (by omega);omega
   omega
  ·exact h2
def eM{a b:Bool}(h:(a&&b)=true):a=true/\b=true:=by
 rw[cW] at h;exact h
def wZ(ha:okW a)(hl:a.length<4611686018427387904):Yd (fun w=>Norm w/\aL w=aL a/\w.length<=a.length) (mr a):=by
 unfold mr;refine Yd.lp (fun s:Int=>0<=s/\s<=a.length/\aL (a.take s.toNat)=aL a) (fun s:Int=>s.toNat) ?_ _ _ ⟨by omega,by omega,by simp⟩ (by simp;omega);rintro next s ⟨h0,h1,h2⟩ hn
 refine Yd.fT (fun hg=>?_)<|fun hg=>?_
 ·have hs:0<s:=bg hg;refine⟨s-1,aM ⟨by omega,by omega⟩,Yd.fT (fun _=>⟨a.getD (s-1).toNat 0,CY (by omega) (by omega),Yd.cond (fun hc=>?_)<|fun hc=>?_⟩) (fun h=>by rw[hg] at h;cases h)⟩
  ·obtain⟨_,hz⟩:=eM hc;have hz:=bg hz;refine Yd.bd (aM ⟨by omega,by omega⟩) (hn _ ⟨by omega,by omega,?_⟩ (by omega));have e:s.toNat=(s-1).toNat+1:=by omega
   rw[e,pP (by omega),hz,AD,Fx] at h2;exact h2
  ·refine Yd.bd (ke (by omega) h0 h1) (Yd.mk ⟨⟨mV ha _,?_⟩,h2,by simp;omega⟩);rw[bp hs,sQ] at hc;have hz:=bV hc;have e:s.toNat=(s-1).toNat+1:=by omega
   show(a.take s.toNat).getLast?≠some 0;rw[e,tN (by omega)];simpa using hz
 ·have hs: ¬0<s:=bV hg;have hs:s=0:=by omega
  subst hs;refine Yd.fT (fun h=>by rw[hg] at h;cases h) (fun _=>Yd.cond (fun hc=>by simp at hc) (fun _=>Yd.bd (ke (by omega) (by omega) h1) (Yd.mk ⟨by simpa using Norm.nil,by simpa using h2,by simp⟩)))
def Sm(ha:okW a)(hb:okW b)(hla:a.length<4398046511104)(hlb:b.length<4398046511104):Yd (fun w=>Norm w/\aL w=aL a+aL b) (p7 a b):=by
 unfold p7;refine Yd.jn (fun s:asv Int×asv Int=>okW s.1/\okW s.2/\s.2.length<=s.1.length/\s.1.length<4398046511104/\aL s.1+aL s.2=aL a+aL b) ?_ fun k hk=>Yd.cond (fun hc=>?_)<|fun hc=>?_
 rotate_left
 ·have hc:=bg hc;exact hk (b,a) ⟨hb,ha,by dsimp only;omega,hlb,by dsimp only;omega⟩
 ·have hc:=bV hc;exact hk (a,b) ⟨ha,hb,by dsimp only;omega,hla,rfl⟩
 rintro⟨x,y⟩ ⟨hx,hy,hl,hlx,hv⟩;simp only at hx hy hl hlx hv⊢;rw[<-hv];refine Yd.bd (aM ⟨by omega,by omega⟩) (Yd.bd (I2 (by omega) (by omega) (by omega)) ?_);refine Yd.lp (fun s:asv Int×Int×Int=>okW s.1/\s.1.length=x.length+1/\(s.2.1=0\/s.2.1=1)/\0<=s.2.2/\s.2.2<=x.length/\aL (s.1.take s.2.2.toNat)+ie s.2.2.toNat*s.2.1=aL (x.take s.2.2.toNat)+aL (y.take s.2.2.toNat))
  (fun s:asv Int×Int×Int=>x.length-s.2.2.toNat) ?_ _ _ ⟨o6 _,by simp only[vW];omega,.inl rfl,by dsimp only;omega,by dsimp only;omega,by simp[aL]⟩ (by dsimp only;omega)
 rintro next ⟨o,c,i⟩ ⟨h1,h2,h3,h4,h5,h6⟩ hn
 simp only at h1 h2 h3 h4 h5 h6 hn⊢;obtain⟨n,rfl⟩:=gQ h4;simp only[Int.toNat_natCast,ur] at*;refine Yd.cond (fun hc=>?_)<|fun hc=>?_
 ·have hc:=bg hc;refine Yd.jn (fun v=>v=y.getD n 0) ?_ fun k hk=>Yd.cond (fun hd=>?_)<|fun hd=>?_
  ·rintro v rfl;obtain⟨p1,p2⟩:=fu hx n;obtain⟨q1,q2⟩:=fu hy n;refine Yd.bd (CY (by omega) (by omega)) ?_;simp only[Int.toNat_natCast]
   generalize hX:x.getD n 0=X at*
   generalize hY:y.getD n 0=Y at*
   have Xd:oE X Y c=some ((X+Y+c)%BB,(X+Y+c)/BB):=by
    unfold oE w8;rw[bp p1,bp p2,bp q1,bp q2];rcases h3 with rfl|rfl<;>rfl
   refine Yd.bd Xd (Yd.bd (CY (by omega) (by omega)) (Yd.bd (CY (by omega) (by omega)) (Yd.bd (aM ⟨by omega,by omega⟩) ?_)));have hdm:=zM (X+Y+c) BB;have WW:0<=(X+Y+c)%BB:=sT _ (by unfold BB;omega);have hr1:(X+Y+c)%BB<BB:=rr _ (by unfold BB;omega);have hq:(X+Y+c)/BB=0\/(X+Y+c)/BB=1:=by unfold BB at*;rcases h3 with rfl|rfl<;>omega
   refine hn _ ⟨mW h1 _ ⟨WW,hr1⟩,by simpa using h2,hq,by dsimp only;omega,by dsimp only;omega,?_⟩ (by dsimp only;omega);have e:(((n:Nat):Int)+1).toNat=n+1:=by omega
   simp only[e,Int.toNat_natCast];rw[pP (by simpa using by omega),dK<|bG _,dR (by omega),pP (by omega),hX,jY];have hy':aL (y.take<|n+1)=aL (y.take n)+ie n*Y:=by
    rcases ln n y.length with h|h
    ·rw[pP h,hY]
    ·have:Y=0:=by rw[<-hY];simp[iw,h]
     rw[this,fe (by omega),fe h];omega
   rw[hy'];have key:ie n*((X+Y+c)%BB)+BB*ie n*((X+Y+c)/BB)=ie n*(X+Y+c):=by
    conv=>rhs;rw[<-hdm]
    rw[bC,Int.mul_comm BB<|ie n,fp]
   have k2:ie n*(X+Y+c)=ie n*X+ie n*Y+ie n*c:=by rw[bC,bC]
   omega
  ·have hd:=bg hd;exact Yd.bd (CY (by omega) hd) (hk _ (by simp))
  ·have hd:=bV hd;exact hk _ (by simp[iw];rw[MW (by omega)];rfl)
 ·have hc:=bV hc;have Lx:n=x.length:=by omega
  subst Lx;refine Yd.bd (CY (by omega) (by omega)) (Yd.bd (CY (by omega) (by omega)) ?_);have AL:0<=c/\c<BB:=by unfold BB;omega
  refine Yd.kD (wZ (mW h1 x.length AL) (by simp;omega)) fun w ⟨w1,w2,_⟩=>Yd.mk ⟨w1,?_⟩
  have e1:=pQ (o.set x.length c) x.length (by rw[pk];omega);have e2:(o.set x.length c).drop x.length=[c]:=by
   rw[ZK (by omega),zH,xE (by rw[List.length_take];omega)];have:(o.drop<|x.length+1)=[]:=xE (by omega);rw[this,List.length_take,fW (by omega)];simp
  rw[e2,dK<|bG _] at e1;rw[fe (l:=x) (by omega),fe (l:=y) (by omega)] at h6;rw[show aL [c]=c from by simp[aL]] at e1;omega
def XQ(h:n<l.length):aL l=aL (l.take n)+ie n*(l.getD n 0+BB*aL (l.drop<|n+1)):=by
 rw[pQ l n (by omega)]
 congr 2
 rw[CE h,mP]
 congr 1
 simp[iw,h]
def IQ(h:m<=n):ie m<=ie n:=by
 obtain⟨k,rfl⟩:∃k,n=m+k:=⟨n-m,by omega⟩;rw[Mz];have a:=oy m;have b:=oy k;have:ie m*1<=ie m*ie k:=kc (by omega) (by omega);omega
def y4(ha:okW a)(hb:Norm b)(h:a.length<b.length):aL a<aL b:=by
 have h1:=(dU ha).2;have h2:=vr hb.1 (by intro e;subst e;simp at h) hb.2;have h3:=IQ (show a.length<=b.length-1 by omega);omega
def BP(ha:Norm a)(hb:Norm b)(hla:a.length<4398046511104)(hlb:b.length<4398046511104):
  Yd (fun r=>(r= -1/\aL a<aL b)\/(r=0/\aL a=aL b)\/(r=1/\aL b<aL a)) (mu a b):=by
 unfold mu;refine Yd.cond (fun hc=>Yd.cond (fun hd=>?_)<|fun hd=>?_)<|fun hc=>?_
 ·have hd:=bg hd;exact Yd.mk (.inl ⟨rfl,y4 ha.1 hb (by omega)⟩)
 ·have hd:=bV hd;rw[jj,lq] at hc;exact Yd.mk (.inr (.inr ⟨rfl,y4 hb.1 ha (by omega)⟩))
 ·rw[MR,j4] at hc;have hl:a.length=b.length:=by omega
  refine Yd.bd (aM ⟨by omega,by omega⟩) ?_;refine Yd.lp (fun s:Int=> -1<=s/\s<a.length/\a.drop (s+1).toNat=b.drop (s+1).toNat) (fun s:Int=>(s+1).toNat) ?_ _ _ ⟨by omega,by omega,?_⟩ (by omega)
  ·rintro next s ⟨h0,h1,h2⟩ hn
   refine Yd.cond (fun hp=>?_)<|fun hp=>?_
   ·have hp:=bg hp;obtain⟨n,rfl⟩:=gQ hp;have en:(((n:Nat):Int)+1).toNat=n+1:=by omega
    rw[en] at h2;refine Yd.bd (b9 (by omega)) (Yd.bd (b9 (by omega)) ?_);have eA:=XQ (l:=a) (n:=n) (by omega);have eB:=XQ (l:=b) (n:=n) (by omega);rw[h2] at eA;obtain⟨tA0,tA⟩:=dU<|mV ha.1 n
    obtain⟨tB0,tB⟩:=dU<|mV hb.1 n
    rw[List.length_take,fW (by omega)] at tA tB;have hpw:=oy n;have gA:bj a (n:Int)=some (a.getD n 0):=b9 (by omega);have gB:bj b (n:Int)=some (b.getD n 0):=b9 (by omega);have dA:a.drop n=a.getD n 0::a.drop (n+1):=by
     rw[CE (show n<a.length by omega)]
     congr 1
     simp[iw,show n<a.length by omega]
    have dB:b.drop n=b.getD n 0::b.drop (n+1):=by
     rw[CE (show n<b.length by omega)]
     congr 1
     simp[iw,show n<b.length by omega]
    generalize a.getD n 0=X at*
    generalize b.getD n 0=Y at*
    have eA':aL a=aL (a.take n)+ie n*X+ie n*(BB*aL (b.drop<|n+1)):=by rw[eA,bC];omega
    have eB':aL b=aL (b.take n)+ie n*Y+ie n*(BB*aL (b.drop<|n+1)):=by rw[eB,bC];omega
    refine Yd.cond (fun hx=>?_)<|fun hx=>?_
    ·rw[jj,lq] at hx;refine Yd.bd gA<|Yd.bd gB<|Yd.cond (fun hlt=>?_)<|fun hlt=>?_
     ·have hlt:=bg hlt;have:ie n*(X+1)<=ie n*Y:=kc (by omega) (by omega);rw[bC,qa] at this;exact Yd.mk (.inl ⟨rfl,by omega⟩)
     ·have hlt:=bV hlt;have:ie n*(Y+1)<=ie n*X:=kc (by omega) (by omega);rw[bC,qa] at this;exact Yd.mk (.inr (.inr ⟨rfl,by omega⟩))
    ·rw[MR,j4] at hx;refine Yd.bd (aM ⟨by omega,by omega⟩) (hn _ ⟨by omega,by omega,?_⟩ (by omega));have:(((n:Nat):Int)-1+1).toNat=n:=by omega
     rw[this,dA,dB,hx,h2]
   ·have hp:=bV hp;have:s= -1:=by omega
    subst this;exact Yd.mk (.inr (.inl ⟨rfl,by simpa using congrArg aL h2⟩))
  ·have:((a.length:Int)-1+1).toNat=a.length:=by omega
   rw[this,yH,hl,yH]
def RT{c:Int}(hx:0<=X/\X<BB)(hy:0<=Y/\Y<BB)(hc:c=0\/c=1):∃r d:Int,AA X Y c=some (r,d)/\0<=r/\r<BB/\(d=0\/d=1)/\X-Y-c=r-BB*d:=by
 have h:AA X Y c=some ((X-Y-c)%Iq,bif decide (X<Y+c) then 1 else 0):=by
  unfold AA w8;rw[bp hx.1,bp hx.2,bp hy.1,bp hy.2];rcases hc with rfl|rfl<;>rfl
 refine⟨_,_,h,sT _ (by unfold Iq;omega),rr _ (by unfold Iq;omega),?_,?_⟩
 ·cases decide (X<Y+c)<;>simp
 ·unfold Iq BB at*;by_cases h:X<Y+c
  ·rw[bp h];simp only[fU];omega
  ·rw[bU h];simp only[fA];omega
def F1{c:Int}(hx:0<=X/\X<BB)(hy:0<=Y/\Y<BB)(hc:c=0\/c=1):∃r d:Int,oE X Y c=some (r,d)/\0<=r/\r<BB/\(d=0\/d=1)/\X+Y+c=r+BB*d:=by
 have h:oE X Y c=some ((X+Y+c)%Iq,(X+Y+c)/Iq):=by
  unfold oE w8;rw[bp hx.1,bp hx.2,bp hy.1,bp hy.2];rcases hc with rfl|rfl<;>rfl
 refine⟨_,_,h,sT _ (by unfold Iq;omega),rr _ (by unfold Iq;omega),?_,?_⟩
 ·unfold Iq BB at*;omega
 ·have:=zM (X+Y+c) Iq;unfold Iq BB at*;omega
def MD(hx:0<=X/\X<BB)(hy:0<=Y/\Y<BB):∃hi lo:Int,yz X Y=some (hi,lo)/\0<=hi/\hi<=BB-2/\0<=lo/\lo<BB/\X*Y=lo+BB*hi:=by
 have h:yz X Y=some (X*Y/Iq,X*Y%Iq):=by
  unfold yz w8;rw[bp hx.1,bp hx.2,bp hy.1,bp hy.2]
  rfl
 have h1:=zM (X*Y) Iq;have h2:0<=X*Y:=rm hx.1 hy.1;have h3:X*Y<=(BB-1)*(BB-1):=wH (by omega) (by omega) hy.1 (by unfold BB;omega);have h4:0<=X*Y%Iq:=sT _ (by unfold Iq;omega);have h5:X*Y%Iq<Iq:=rr _ (by unfold Iq;omega);refine⟨_,_,h,?_,?_,h4,h5,?_⟩
 ·exact rn h2 (by unfold Iq;omega)
 ·generalize X*Y/Iq=q at*
  generalize X*Y%Iq=r at*
  generalize X*Y=p at*
  unfold Iq BB at*;omega
 ·unfold Iq BB at*;omega
def AM(h:l.length<=n):l.getD n 0=0:=by simp[iw,h]
def bo(l:asv Int)(n:Nat):aL (l.take<|n+1)=aL (l.take n)+ie n*l.getD n 0:=by
 rcases ln n l.length with h|h
 ·exact pP h
 ·rw[AM h,fe (by omega),fe h];omega
def I1(ha:okW a)(hb:okW b)(hl:b.length<=a.length)(hla:a.length<4398046511104)(hv:aL b<=aL a):Yd (fun w=>Norm w/\aL w=aL a-aL b) (p6 a b):=by
 unfold p6;refine Yd.bd (I2 (by omega) (by omega) (by omega)) ?_;refine Yd.lp (fun s:asv Int×Int×Int=>okW s.1/\s.1.length=a.length/\(s.2.1=0\/s.2.1=1)/\0<=s.2.2/\s.2.2<=a.length/\aL (s.1.take s.2.2.toNat)=aL (a.take s.2.2.toNat)-aL (b.take s.2.2.toNat)+ie s.2.2.toNat*s.2.1)
  (fun s:asv Int×Int×Int=>a.length-s.2.2.toNat) ?_ _ _ ⟨o6 _,by simp only[vW];omega,.inl rfl,by dsimp only;omega,by dsimp only;omega,by simp[aL]⟩ (by dsimp only;omega)
 rintro next ⟨o,c,i⟩ ⟨h1,h2,h3,h4,h5,h6⟩ hn
 simp only at h1 h2 h3 h4 h5 h6 hn⊢;obtain⟨n,rfl⟩:=gQ h4;simp only[Int.toNat_natCast,ur] at*;refine Yd.cond (fun hc=>?_)<|fun hc=>?_
 ·have hc:=bg hc;refine Yd.jn (fun v=>v=b.getD n 0) ?_ fun k hk=>Yd.cond (fun hd=>?_)<|fun hd=>?_
  ·rintro v rfl;obtain⟨r,d,e1,e2,e3,e4,e5⟩:=RT (fu ha n) (fu hb n) h3;refine Yd.bd (b9 (by omega)) (Yd.bd e1 (Yd.bd (b9 (by omega)) (Yd.bd (b9 (by omega)) (Yd.bd (aM ⟨by omega,by omega⟩) ?_))));refine hn _ ⟨mW h1 _ ⟨e2,e3⟩,by simpa using h2,e4,by dsimp only;omega,by dsimp only;omega,?_⟩ (by dsimp only;omega);have e:(((n:Nat):Int)+1).toNat=n+1:=by omega
   simp only[e,Int.toNat_natCast];rw[bo,dK<|bG _,dR (by omega),bo a,bo b,jY]
   generalize a.getD n 0=X at*
   generalize b.getD n 0=Y at*
   have key:ie n*(X-Y-c)=ie n*r-BB*ie n*d:=by rw[e5,mK,<-fp,Int.mul_comm (ie n) BB]
   have k2:ie n*(X-Y-c)=ie n*X-ie n*Y-ie n*c:=by rw[mK,mK]
   omega
  ·have hd:=bg hd;exact Yd.bd (b9 (by omega))<|hk _ rfl
  ·have hd:=bV hd;exact hk _ (by rw[AM (by omega)])
 ·have hc:=bV hc;have Lx:n=a.length:=by omega
  subst Lx;refine Yd.kD (wZ h1 (by omega)) fun w ⟨w1,w2,_⟩=>Yd.mk ⟨w1,?_⟩
  rw[w2];rw[fe (l:=o) (by omega),fe (l:=a) (by omega),fe (l:=b) (by omega)] at h6;have jQ:=(dU h1).2;rw[h2] at jQ;have hp:=oy a.length;rcases h3 with rfl|rfl
  ·omega
  ·omega
def NP(h:aL (l.drop n)=0)(hk:okW l)(hm:n<=m):l.getD m 0=0:=by
 have key:∀(l:asv Int) (j:Nat),okW l->aL l=0->l.getD j 0=0:=by
  intro l
  induction l with
  |nil=>intro j _ _;simp
  |cons x l ih=>
   intro j hk hv;rw[rQ] at hk;rw[mP] at hv;have h1:=(dU hk.2).1;have hx:=hk.1;unfold BB at*;cases j with
   |zero=>simp;omega
   |succ j=>simpa using ih j hk.2 (by omega)
 have:=key (l.drop n) (m-n) (wX hk n) h;simpa[iw,zJ,show n+(m-n)=m by omega] using this
def Sl(ha:okW a)(hb:okW b)(hla:a.length<2199023255552)(hlb:b.length<2199023255552):Yd (fun w=>Norm w/\aL w=aL a*aL b) (ub a b):=by
 unfold ub;refine Yd.bd (aM ⟨by omega,by omega⟩) (Yd.bd (I2 (by omega) (by omega) (by omega)) ?_);refine Yd.lp (fun s:asv Int×Int=>okW s.1/\s.1.length=a.length+b.length/\0<=s.2/\s.2<=a.length/\aL (s.1.take<|s.2.toNat+b.length)=aL (a.take s.2.toNat)*aL b)
  (fun s:asv Int×Int=>a.length-s.2.toNat) ?_ _ _ ⟨o6 _,by simp only[vW];omega,by dsimp only;omega,by dsimp only;omega,?_⟩ (by dsimp only;omega)
 rotate_left
 ·dsimp only;rw[Jw,y5];simp[aL]
 rintro next ⟨o,i⟩ ⟨h1,h2,h3,h4,h5⟩ hn
 simp only at h1 h2 h3 h4 h5 hn⊢;obtain⟨n,rfl⟩:=gQ h3;simp only[Int.toNat_natCast,ur] at*;refine Yd.cond (fun hc=>?_)<|fun hc=>?_
 ·have hc:=bg hc;refine Yd.bd (b9 (by omega)) ?_;refine Yd.lp (fun s:asv Int×Int×Int=>okW s.1/\s.1.length=a.length+b.length/\(0<=s.2.1/\s.2.1<BB)/\0<=s.2.2/\s.2.2<=b.length/\s.1.drop (n+s.2.2.toNat)=o.drop (n+s.2.2.toNat)/\
    aL (s.1.take<|n+s.2.2.toNat)+ie (n+s.2.2.toNat)*s.2.1=aL (o.take<|n+s.2.2.toNat)+ie n*(a.getD n 0*aL (b.take s.2.2.toNat)))
   (fun s:asv Int×Int×Int=>b.length-s.2.2.toNat) ?_ _ _ ⟨h1,h2,⟨by dsimp only;omega,by dsimp only;unfold BB;omega⟩,by dsimp only;omega,by dsimp only;omega,rfl,by simp[aL]⟩ (by dsimp only;omega)
  rintro acE ⟨p,c,j⟩ ⟨g1,g2,g3,g4,g5,g6,g7⟩ Qm;simp only at g1 g2 g3 g4 g5 g6 g7 Qm⊢;obtain⟨m,rfl⟩:=gQ g4;simp only[Int.toNat_natCast,ur] at*;have eo:p.getD (n+m) 0=o.getD (n+m) 0:=by
   have:=congrArg (fun l=>l.getD 0 0) g6;simpa[iw,zJ] using this
  refine Yd.cond (fun hd=>?_)<|fun hd=>?_
  ·have hd:=bg hd;obtain⟨hi,lo,m1,m2,m3,m4,m5,m6⟩:=MD (fu ha n)<|fu hb m
   obtain⟨r1,d1,a1,a2,a3,a4,a5⟩:=F1 (X:=lo) (Y:=p.getD (n+m) 0) (c:=0) ⟨m4,m5⟩ (fu g1 _)<| .inl rfl
   obtain⟨r2,d2,b1,b2,b3,b4,b5⟩:=F1 (X:=r1) (Y:=c) (c:=0) ⟨a2,a3⟩ g3<| .inl rfl
   have enm:((n:Nat):Int)+((m:Nat):Int)=((n+m:Nat):Int):=by omega
   rw[enm];refine Yd.bd (b9 (by omega)) (Yd.bd m1 (Yd.bd (aM ⟨by omega,by omega⟩) (Yd.bd (b9 (by omega)) (Yd.bd (b9 (by omega)) (Yd.bd a1 (Yd.bd b1 (Yd.bd (aM ⟨by omega,by omega⟩) (Yd.bd (b9 (by omega)) (Yd.bd (b9 (by omega)) (Yd.bd (aM ⟨by omega,by omega⟩) ?_))))))))));obtain⟨xa,xb⟩:=fu ha n;obtain⟨ya,yb⟩:=fu hb m;obtain⟨oa,ob⟩:=fu g1<|n+m
   have KL:a.getD n 0*b.getD m 0<=(BB-1)*(BB-1):=wH (by omega) (by omega) ya (by unfold BB;omega);have hD:BB*(hi+d1+d2)=a.getD n 0*b.getD m 0+p.getD (n+m) 0+c-r2:=by unfold BB at*;omega
   have hlt:hi+d1+d2<BB:=by
    generalize a.getD n 0*b.getD m 0=q at*
    unfold BB at*;omega
   have hw:wr .u64 (wr .u64 (hi+d1)+d2)=hi+d1+d2:=by
    have e1:wr .u64 (hi+d1)=hi+d1:=wrap_u64 ⟨by omega,by unfold BB at*;omega⟩;rw[e1];exact wrap_u64 ⟨by omega,by unfold BB at*;omega⟩
   dsimp only;rw[hw];refine Qm _ ⟨mW g1 _ ⟨b2,b3⟩,by simpa using g2,⟨by dsimp only;omega,hlt⟩,by dsimp only;omega,by dsimp only;omega,?_,?_⟩ (by dsimp only;omega)
   ·have e:(((m:Nat):Int)+1).toNat=m+1:=by omega
    simp only[e,Int.toNat_natCast];rw[MT (by omega),<-uj];have:=congrArg (List.drop 1) g6;rwa [ji,ji] at this
   ·have e:(((m:Nat):Int)+1).toNat=m+1:=by omega
    simp only[e,Int.toNat_natCast];rw[<-uj,bo,dK<|bG _,dR (by omega),bo o,bo b,<-eo,jY];have k1:ie n*(a.getD n 0*(aL (b.take m)+ie m*b.getD m 0))=ie n*(a.getD n 0*aL (b.take m))+ie (n+m)*(a.getD n 0*b.getD m 0):=by
     rw[bC,bC,Mz,iU (a.getD n 0)<|ie m,fp]
    have k2:ie (n+m)*r2+BB*ie (n+m)*(hi+d1+d2)=ie (n+m)*(a.getD n 0*b.getD m 0)+ie (n+m)*p.getD (n+m) 0+ie (n+m)*c:=by
     rw[Int.mul_comm BB,fp,<-bC,<-bC,<-bC]
     congr 1;omega
    rw[k1];omega
  ·have hd:=bV hd;have hm':m=b.length:=by omega
   subst hm';have enm:((n:Nat):Int)+((b.length:Nat):Int)=((n+b.length:Nat):Int):=by omega
   rw[enm];refine Yd.bd (aM ⟨by omega,by omega⟩) (Yd.bd (b9 (by omega)) (Yd.bd (b9 (by omega)) (Yd.bd (aM ⟨by omega,by omega⟩) ?_)));refine hn _ ⟨mW g1 _ g3,by simpa using g2,by dsimp only;omega,by dsimp only;omega,?_⟩ (by dsimp only;omega);have e:(((n:Nat):Int)+1).toNat=n+1:=by omega
   simp only[e,Int.toNat_natCast];rw[show n+1+b.length=(n+b.length)+1 from by omega,bo,dK<|bG _,dR (by omega),bo a,ll];rw[fe (l:=b) (by omega),h5] at g7;rw[g7,fp]
 ·have hc:=bV hc;have Lx:n=a.length:=by omega
  subst Lx;refine Yd.kD (wZ h1 (by omega)) fun w ⟨w1,w2,_⟩=>Yd.mk ⟨w1,?_⟩
  rw[w2];rw[fe (l:=o) (by omega),fe (l:=a) (by omega)] at h5;exact h5
def wrW(n:Int):IntKind.wrap .u64 n=n%BB:=by
 unfold IntKind.wrap
 rfl
def PW{n:Int}(h:0<=n/\n<BB):IntKind.wrap .u64 n=n:=by rw[wrW,CS h.1 h.2]
def Za(hx:0<=x)(hy:0<=y)(hs:y<2^s)(hd:x%2^s=0)(hw:x+y<BB):nG .or .u64 x y=x+y:=by
 obtain⟨a,rfl⟩:=gQ hx;obtain⟨b,rfl⟩:=gQ hy;have pN:b<2^s:=by exact_mod_cast hs
 have hd':a%2^s=0:=by exact_mod_cast hd
 have ho:a|||b=a+b:=by
  have e:a=2^s*(a/2^s):=by have:=Nat.div_add_mod a (2^s);omega
  rw[e,<-Nat.two_pow_add_eq_or_of_lt pN]
 have hb:a+b<2^64:=by unfold BB at hw;omega
 unfold nG;show IntKind.wrap .u64 ((BitVec.ofInt 64 a|||BitVec.ofInt 64 b).toNat:Int)=_;have e1:BitVec.ofInt 64 (a:Int)=BitVec.ofNat 64 a:=MV ..;have e2:BitVec.ofInt 64 (b:Int)=BitVec.ofNat 64 b:=MV ..;rw[e1,e2,BitVec.toNat_or,MQ,MQ,AH (by omega),AH (by omega),ho];exact PW ⟨by omega,by omega⟩
def VA(hx:0<=x/\x<BB):nG .and .u64 x 4294967295=x%4294967296:=by
 obtain⟨a,rfl⟩:=gQ hx.1;have hb:a<2^64:=by have:=hx.2;unfold BB at this;omega
 unfold nG;show IntKind.wrap .u64 ((BitVec.ofInt 64 a&&&BitVec.ofInt 64 ((4294967295:Nat):Int)).toNat:Int)=_;have e1:BitVec.ofInt 64 (a:Int)=BitVec.ofNat 64 a:=MV ..;have e2:BitVec.ofInt 64 ((4294967295:Nat):Int)=BitVec.ofNat 64 4294967295:=MV ..;rw[e1,e2,BitVec.toNat_and,MQ,MQ,AH hb,AH (by omega),show 4294967295=2^32-1 from rfl,Nat.and_two_pow_sub_one_eq_mod];have:a%2^32<2^32:=uv _ (by omega);rw[PW ⟨by omega,by unfold BB;omega⟩];omega
def afz(hs:s<=64):IB .u64 x (s:Int)=some (x/2^s):=by
 rw[aio (by omega)]
 congr 1
 rw[Int.toNat_natCast,fW<|show s<=IntKind.bits .u64 from hs];exact JB _ (gj (Int.pow_pos (by omega)))
def afA(hs:s<=64):IC .u64 x (s:Int)=some (x*2^s%BB):=by
 rw[aip (by omega)]
 congr 1
 rw[Int.toNat_natCast,fW<|show s<=IntKind.bits .u64 from hs,wrW]
def rL(h:s<=64):(2:Int)^s*2^(64-s)=BB:=by
 rw[<-Int.pow_add,show s+(64-s)=64 from by omega];rfl
def two_pos(s:Nat):(0:Int)<2^s:=Int.pow_pos (by omega)
def Lf(hs:s<=64)(hx:0<=x/\x<BB):
  ∃lo hi:Int,IC .u64 x (s:Int)=some lo/\IB .u64 x ((64:Int)-(s:Int))=some hi/\0<=lo/\lo<BB/\0<=hi/\hi<2^s/\lo%2^s=0/\x*2^s=lo+BB*hi:=by
 have e64:((64:Int)-(s:Int))=((64-s:Nat):Int):=by omega
 have h2:=rL hs;have p1:=two_pos s;have p2:=two_pos<|64-s
 have ac8:x*2^s=(x%2^(64-s))*2^s+BB*(x/2^(64-s)):=by
  conv=>lhs;rw[<-zM x (2^(64-s))]
  rw[ll,<-h2,MP,Int.mul_comm (2^(64-s))<|2^s]
 have r0:=sT x (show(2:Int)^(64-s)≠0 by omega);have r1:=rr x p2;have hlt:(x%2^(64-s))*2^s<BB:=by
  rw[<-h2,Int.mul_comm];exact Int.mul_lt_mul_of_pos_left r1 p1
 have W7:0<=(x%2^(64-s))*2^s:=rm r0<|gj p1
 refine⟨(x%2^(64-s))*2^s,x/2^(64-s),?_,?_,W7,hlt,rn hx.1<|gj p2,?_,Int.mul_emod_left _ _,ac8⟩
 ·rw[afA hs,ac8,Int.add_mul_emod_self_left,CS W7 hlt]
 ·rw[e64,afz (by omega)]
 ·refine Jz p2 ?_;rw[h2];exact hx.2
structure HS(y1 y0 N d q r:Int):Prop where
 q0:0<=q
 q1:q<=4294967297
 e:q*y1+r=N
 r0:0<=r
 r1:r<4294967296
 up:N*4294967296+d<(q+1)*(y1*4294967296+y0)
structure HQ(y1 y0 N d q:Int):Prop where
 q0:0<=q
 q1:q<4294967296
 lo:q*(y1*4294967296+y0)<=N*4294967296+d
 up:N*4294967296+d<(q+1)*(y1*4294967296+y0)
structure HP(y1 y0 N d:Int):Prop where
 a0:2147483648<=y1
 a1:y1<4294967296
 b0:0<=y0
 b1:y0<4294967296
 n0:0<=N
 n1:N<y1*4294967296+y0
 d0:0<=d
 d1:d<4294967296
def YL(p:HP y1 y0 N d):HS y1 y0 N d (N/y1) (N-N/y1*y1):=by
 obtain⟨a0,a1,b0,b1,n0,n1,d0,d1⟩:=p;have h1:=zM N y1;have h2:=sT N (show y1≠0 by omega);have h3:=rr N (show 0<y1 by omega);have h4:0<=N/y1:=rn n0 (by omega)
 generalize N/y1=q at*
 generalize N%y1=r at*
 rw[Int.mul_comm y1 q] at h1;refine⟨h4,?_,by omega,by omega,by omega,?_⟩
 ·have:q<=4294967297\/4294967298<=q:=by omega
  rcases this with h|h
  ·exact h
  ·have:4294967298*y1<=q*y1:=uu h (by omega);omega
 ·have hq:0<=q*y0:=rm h4 b0;rw[ll,bC,<-fp];omega
def ahD(p:HP y1 y0 N d)(h:HS y1 y0 N d q r)(hc: ¬4294967296<=q)(hd: ¬4294967296*r+d<q*y0):HQ y1 y0 N d q:=by
 obtain⟨a0,a1,b0,b1,n0,n1,d0,d1⟩:=p;obtain⟨q0,q1,e,r0,r1,up⟩:=h;refine⟨q0,by omega,?_,up⟩;rw[bC,<-fp];omega
def YJ(p:HP y1 y0 N d)(h:HS y1 y0 N d q r)(hc:4294967296<=q\/4294967296*r+d<q*y0):1<=q/\N*4294967296+d<(q-1+1)*(y1*4294967296+y0):=by
 obtain⟨a0,a1,b0,b1,n0,n1,d0,d1⟩:=p;obtain⟨q0,q1,e,r0,r1,up⟩:=h;have e1:q-1+1=q:=by omega
 rw[e1,bC,<-fp];rcases hc with hc|hc
 ·refine⟨by omega,?_⟩;have h1:4294967296*y1<=q*y1:=uu hc (by omega);have h2:4294967296*y0<=q*y0:=uu hc (by omega);omega
 ·refine⟨?_,by omega⟩;have:1<=q\/q=0:=by omega
  rcases this with h|h
  ·exact h
  ·subst h;omega
def U6(p:HP y1 y0 N d)(h:HS y1 y0 N d q r)(hc:4294967296<=q\/4294967296*r+d<q*y0)(hb:4294967296<=r+y1):HQ y1 y0 N d (q-1):=by
 obtain⟨u1,u2⟩:=YJ p h hc;obtain⟨a0,a1,b0,b1,n0,n1,d0,d1⟩:=p;obtain⟨q0,q1,e,r0,r1,up⟩:=h;have hy:(q-1)*y0<=4294967296*y0:=uu (by omega) b0;have e2:(q-1)*y1=q*y1-y1:=by rw[Int.sub_mul,Int.one_mul]
 have lo:(q-1)*(y1*4294967296+y0)<=N*4294967296+d:=by
  rw[bC,<-fp,e2];omega
 refine⟨by omega,?_,lo,u2⟩;have:q-1<4294967296\/4294967296<=q-1:=by omega
 rcases this with h|h
 ·exact h
 ·have:4294967296*(y1*4294967296+y0)<=(q-1)*(y1*4294967296+y0):=uu h (by omega);omega
def YK(p:HP y1 y0 N d)(h:HS y1 y0 N d q r)(hc:4294967296<=q\/4294967296*r+d<q*y0)(hb:r+y1<4294967296):HS y1 y0 N d (q-1) (r+y1):=by
 obtain⟨u1,u2⟩:=YJ p h hc;obtain⟨a0,a1,b0,b1,n0,n1,d0,d1⟩:=p;obtain⟨q0,q1,e,r0,r1,up⟩:=h;have e2:(q-1)*y1=q*y1-y1:=by rw[Int.sub_mul,Int.one_mul]
 exact⟨by omega,by omega,by omega,by omega,by omega,u2⟩
def YM(p:HP y1 y0 N d)(h:HS y1 y0 N d q r):
  ((decide<|4294967296<=q)||(decide<|(IntKind.wrap .u64<|(IntKind.wrap .u64<|4294967296*r)+d)<(IntKind.wrap .u64<|q*y0)))=decide (4294967296<=q\/4294967296*r+d<q*y0):=by
 obtain⟨a0,a1,b0,b1,n0,n1,d0,d1⟩:=p;obtain⟨q0,q1,e,r0,r1,up⟩:=h;rw[PW (n:=4294967296*r) ⟨by omega,by unfold BB;omega⟩,PW (n:=4294967296*r+d) ⟨by omega,by unfold BB;omega⟩];by_cases hq:4294967296<=q
 ·rw[bp hq,bp<|show _\/_ from .inl hq,FA]
 ·have h1:0<=q*y0:=rm q0 b0;have h2:q*y0<=4294967295*4294967295:=wH (by omega) (by omega) b0 (by omega);rw[PW (n:=q*y0) ⟨h1,by unfold BB;omega⟩,bU hq,yD]
  congr 1
  simp[hq]
def YN(p:HP y1 y0 N d)(h:HQ y1 y0 N d q)(hy:y=y1*4294967296+y0):
  IntKind.wrap .u64 (IntKind.wrap .u64 (IntKind.wrap .u64 (N*4294967296)+d)-IntKind.wrap .u64 (q*y))=N*4294967296+d-q*y:=by
 obtain⟨a0,a1,b0,b1,n0,n1,d0,d1⟩:=p;obtain⟨q0,q1,lo,up⟩:=h;subst hy;simp only[wrW];rw[ll,Int.one_mul] at up
 generalize q*(y1*4294967296+y0)=Z at*
 unfold BB;omega
def BY(h:n≠0):2^Nat.log2 n<=n/\n<2^(Nat.log2 n+1):=⟨Nat.log2_self_le h,Nat.lt_log2_self⟩
def acJ(h0:0<y)(h1:y<BB):∃s:Nat,KB y=some (s:Int)/\s<=63/\BB<=2*(y*2^s)/\y*2^s<BB:=by
 obtain⟨n,rfl⟩:=gQ<|gj h0
 have hn:n≠0:=by omega
 obtain⟨l1,l2⟩:=BY hn;have hl:Nat.log2 n<=63:=by
  have:Nat.log2 n<64:=by
   rw[yA hn];have:n<18446744073709551616:=by have:=h1;unfold BB at this;omega
   exact this
  omega
 refine⟨63-Nat.log2 n,?_,by omega,?_,?_⟩
 ·unfold KB w8;rw[bp (show(0:Int)<=(n:Int) by omega),bp<|show((n:Nat):Int)<18446744073709551616 from h1];show some (64-((DD ((n:Nat):Int).toNat:Nat):Int))=_;have:DD n=Nat.log2 n+1:=by
   unfold DD;have:Nat.beq n 0=false:=by
    cases hb:Nat.beq n 0 with
    |false=>rfl
    |true=>exact absurd (fX hb) hn
   rw[this];rfl
  rw[Int.toNat_natCast,this]
  congr 1;omega
 ·have e:2^(63-Nat.log2 n)*2^Nat.log2 n=2^63:=by rw[<-qO];congr 1;omega
  have:2^63<=2^(63-Nat.log2 n)*n:=by rw[<-e];exact FJ _ l1
  have h2:(2:Int)^63<=2^(63-Nat.log2 n)*(n:Int):=by exact_mod_cast this
  rw[Int.mul_comm] at h2;unfold BB;omega
 ·have e:2^(63-Nat.log2 n)*2^(Nat.log2 n+1)=2^64:=by rw[<-qO];congr 1;omega
  have:2^(63-Nat.log2 n)*n<2^64:=by rw[<-e];exact Nat.mul_lt_mul_of_pos_left l2<|FH _
  have h2:2^(63-Nat.log2 n)*(n:Int)<(2:Int)^64:=by exact_mod_cast this
  rw[Int.mul_comm] at h2;unfold BB;omega
def Pl(hx:0<=x/\x<BB)(hy:0<y):Xm .u64 x y=some (x/y):=by
 unfold Xm;rw[bU (show¬y=0 by omega)];show some (IntKind.wrap .u64<|x.tdiv y)=_;rw[Int.tdiv_eq_ediv_of_nonneg hx.1,PW ⟨rn hx.1<|gj hy,Int.lt_of_le_of_lt (AG _ hx.1) hx.2⟩]
def yp(hx:0<=x)(hy:0<y):tC x y=some (x%y):=by
 unfold tC;rw[bU (show¬y=0 by omega)];show some (x.tmod y)=_;rw[Int.tmod_eq_emod_of_nonneg hx]
def ahm:IB .u64 x 32=some (x/4294967296):=afz (s:=32) (by omega)
def Rj{hi lo:Int}(Vb:0<=hi/\hi<y)(GV:0<=lo/\lo<BB)(hy:y<BB):
  Yd (fun p=>(0<=p.1/\p.1<BB)/\(0<=p.2/\p.2<y)/\hi*BB+lo=p.1*y+p.2) (ng hi lo y):=by
 unfold ng;dsimp only[wr];refine Yd.cond (fun hc=>absurd (bg hc) (by omega)) (fun _=>Yd.cond (fun hc=>absurd (bg hc) (by omega))<|fun _=>Yd.cond (fun h0=>?_)<|fun h0=>?_)
 ·have h0:=bg h0;subst h0;refine Yd.bd (Pl GV Vb.2) (Yd.bd (yp GV.1 Vb.2) (Yd.mk ⟨⟨rn GV.1 (by omega),Int.lt_of_le_of_lt (AG _ GV.1) GV.2⟩,⟨sT _ (by omega),rr _ Vb.2⟩,?_⟩));have:=zM lo y;rw[Int.mul_comm] at this;dsimp only;omega
 ·have h0:=bV h0;obtain⟨s,l1,l2,l3,l4⟩:=acJ (y:=y) (by omega) hy;have ws:IntKind.wrap .u64 (s:Int)=s:=PW ⟨by omega,by unfold BB;omega⟩;have aog:IntKind.wrap .u64 ((64:Int)-s)=64-s:=PW ⟨by omega,by unfold BB;omega⟩;have ps:=two_pos s;have hgt:hi*2^s+2^s<=y*2^s:=by
   have:(hi+1)*2^s<=y*2^s:=uu (by omega)<|gj ps
   rw[ll,Int.one_mul] at this;exact this
  have hn:0<=hi*2^s:=rm Vb.1<|gj ps
  obtain⟨u0,u1,e1,e2,a1,a2,a3,a4,a5,a6⟩:=Lf (x:=lo) (s:=s) (by omega) GV;have eY:IC .u64 y (s:Int)=some (y*2^s):=by rw[afA (by omega),CS (by omega) l4]
  have eH:IC .u64 hi (s:Int)=some (hi*2^s):=by rw[afA (by omega),CS hn (by omega)]
  have eO:nG .or .u64 (hi*2^s) u1=hi*2^s+u1:=Za (s:=s) hn a3 a4 (Int.mul_emod_left _ _) (by omega);refine Yd.bd l1 ?_;rw[ws,aog];refine Yd.bd eY<|Yd.bd ahm<|Yd.bd eH<|Yd.bd e2<|Yd.bd e1<|Yd.bd ahm ?_
  rw[eO,VA (x:=u0) ⟨a1,a2⟩,VA (x:=y*2^s) ⟨by omega,l4⟩];have W5:hi*BB*2^s+lo*2^s=(hi*2^s+u1)*BB+u0:=by
   rw[a6,ll,MP hi BB,Int.mul_comm BB u1];omega
  generalize hYd:y*2^s=Y at*
  generalize hNd:hi*2^s+u1=N at*
  have y1b:2147483648<=Y/4294967296:=by unfold BB at*;omega
  have y1c:Y/4294967296<4294967296:=by unfold BB at*;omega
  have yy:Y=Y/4294967296*4294967296+Y%4294967296:=by omega
  have hP1:HP (Y/4294967296) (Y%4294967296) N (u0/4294967296):=⟨y1b,y1c,by omega,by omega,by omega,by omega,by omega,by unfold BB at*;omega⟩;have hu:u0=u0/4294967296*4294967296+u0%4294967296:=by omega
  have u00:0<=u0%4294967296:=by omega
  have u01:u0%4294967296<4294967296:=by omega
  have hYB:Y<BB:=l4
  generalize Y/4294967296=y1 at*
  generalize Y%4294967296=y0 at*
  generalize u0/4294967296=d1 at*
  generalize u0%4294967296=d0 at*
  have hN:0<=N/\N<BB:=⟨hP1.n0,by omega⟩;refine Yd.bd (Pl hN (by omega)) ?_;refine Yd.jn (HQ y1 y0 N d1) ?_ ?_
  ·intro q1 hq1;rw[YN hP1 hq1 yy];have g1:=hq1.lo;have g2:=hq1.up;rw[<-yy] at g1 g2;rw[ll,Int.one_mul] at g2;have hP2:HP y1 y0 (N*4294967296+d1-q1*Y) d0:=⟨y1b,y1c,hP1.b0,hP1.b1,by omega,by omega,u00,u01⟩
   generalize hM:N*4294967296+d1-q1*Y=M at*
   refine Yd.bd (Pl ⟨hP2.n0,by omega⟩ (by omega)) ?_;refine Yd.jn (HQ y1 y0 M d0) ?_ ?_
   ·intro q0 hq0;rw[YN hP2 hq0 yy];have f1:=hq0.lo;have f2:=hq0.up;rw[<-yy] at f1 f2;rw[ll,Int.one_mul] at f2;have JK:hi*BB*2^s+lo*2^s=(q1*4294967296+q0)*Y+(M*4294967296+d0-q0*Y):=by
     rw[W5,ll,MP];unfold BB
     generalize q1*Y=A at*
     generalize q0*Y=B at*
     omega
    generalize hR:M*4294967296+d0-q0*Y=R at*
    have hR0:0<=R:=by omega
    have hR1:R<Y:=by omega
    refine Yd.bd (afz (by omega))<|Yd.mk ?_
    have q1a:=hq1.q0;have q1b:=hq1.q1;have q0a:=hq0.q0;have q0b:=hq0.q1;have eq:IntKind.wrap .u64 (IntKind.wrap .u64 (q1*4294967296)+q0)=q1*4294967296+q0:=by
     rw[PW (n:=q1*4294967296) ⟨by omega,by unfold BB;omega⟩,PW ⟨by omega,by unfold BB;omega⟩]
    dsimp only;rw[eq];have hdiv:R=2^s*(hi*BB+lo-(q1*4294967296+q0)*y):=by
     rw[<-hYd] at JK;rw[mK,bC,Int.mul_comm (2^s)<|hi*BB,Int.mul_comm (2^s) lo,Int.mul_comm (2^s)<|_*y,fp _ y];omega
    have hdd:R/2^s=hi*BB+lo-(q1*4294967296+q0)*y:=by
     rw[hdiv,Int.mul_ediv_cancel_left _ (by omega)]
    refine⟨⟨by omega,by unfold BB;omega⟩,⟨rn hR0 (by omega),Jz ps (by rw[hYd];exact hR1)⟩,?_⟩;rw[hdd];omega
   ·intro k hk;have hi0:=YL hP2;have w1:0<=M/y1:=rn hP2.n0 (by omega);have e1:IntKind.wrap .u64 (M-IntKind.wrap .u64 (M/y1*y1))=M-M/y1*y1:=by
     have:=hi0.e;have:=hi0.r0;have:=hi0.r1;have h1:0<=M/y1*y1:=rm w1 (by omega);rw[PW (n:=M/y1*y1) ⟨h1,by have:=hP2.n1;omega⟩,PW ⟨by omega,by unfold BB;omega⟩]
    rw[e1];refine Yd.lp (fun s:Int×Int=>HS y1 y0 M d0 s.2 s.1) (fun s:Int×Int=>s.2.toNat) ?_ _ _ hi0 (by have:=hi0.q0;have:=hi0.q1;dsimp only;omega);rintro next ⟨r,q⟩ h adj
    dsimp only at h⊢;rw[YM hP2 h];have wr1:IntKind.wrap .u64 (r+y1)=r+y1:=PW ⟨by have:=h.r0;omega,by have:=h.r1;unfold BB;omega⟩;refine Yd.cond (fun hc=>?_)<|fun hc=>?_
    ·have hc:=bg hc;have hup:=(YJ hP2 h hc).1;have wq:IntKind.wrap .u64 (q-1)=q-1:=PW ⟨by omega,by have:=h.q1;unfold BB;omega⟩;simp only[wr1,wq];refine Yd.cond (fun hd=>?_)<|fun hd=>?_
     ·exact hk _<|U6 hP2 h hc<|bg hd
     ·exact adj _ (YK hP2 h hc (by have:=bV hd;omega)) (by dsimp only;omega)
    ·have hc:=bV hc;exact hk _<|ahD hP2 h (fun a=>hc<| .inl a)<|fun a=>hc<| .inr a
  ·intro k hk;have hi0:=YL hP1;have w1:0<=N/y1:=rn hP1.n0 (by omega);have e1:IntKind.wrap .u64 (N-IntKind.wrap .u64 (N/y1*y1))=N-N/y1*y1:=by
    have:=hi0.e;have:=hi0.r0;have:=hi0.r1;have h1:0<=N/y1*y1:=rm w1 (by omega);rw[PW (n:=N/y1*y1) ⟨h1,by omega⟩,PW ⟨by omega,by unfold BB;omega⟩]
   rw[e1];refine Yd.lp (fun s:Int×Int=>HS y1 y0 N d1 s.1 s.2) (fun s:Int×Int=>s.1.toNat) ?_ _ _ hi0 (by have:=hi0.q0;have:=hi0.q1;dsimp only;omega);rintro next ⟨q,r⟩ h adj
   dsimp only at h⊢;rw[YM hP1 h];have wr1:IntKind.wrap .u64 (r+y1)=r+y1:=PW ⟨by have:=h.r0;omega,by have:=h.r1;unfold BB;omega⟩;refine Yd.cond (fun hc=>?_)<|fun hc=>?_
   ·have hc:=bg hc;have hup:=(YJ hP1 h hc).1;have wq:IntKind.wrap .u64 (q-1)=q-1:=PW ⟨by omega,by have:=h.q1;unfold BB;omega⟩;simp only[wr1,wq];refine Yd.cond (fun hd=>?_)<|fun hd=>?_
    ·exact hk _<|U6 hP1 h hc<|bg hd
    ·exact adj _ (YK hP1 h hc (by have:=bV hd;omega)) (by dsimp only;omega)
   ·have hc:=bV hc;exact hk _<|ahD hP1 h (fun a=>hc<| .inl a)<|fun a=>hc<| .inr a
def O7:(List.replicate n (0:Int)).getD m 0=0:=by
 rcases ln m n with h|h
 ·simp[iw,h]
 ·exact AM (by simpa using h)
def UC{lo:Int}(hs:s<=64)(h:lo%2^s=0)(hl:lo<BB):lo+2^s<=BB:=by
 have e:=zM lo<|2^s
 rw[h] at e;have h2:=rL hs;have p:=two_pos s
 generalize lo/2^s=k at*
 have hk:k<2^(64-s):=by
  rcases(show k<2^(64-s)\/2^(64-s)<=k by omega) with h'|h'
  ·exact h'
  ·have:=kc h' (gj p);omega
 have:=kc (show k+1<=2^(64-s) from hk)<|gj p
 rw[bC,qa] at this;omega
def Vz(hx:0<=x)(hy:0<=y)(hs:y<2^s)(hd:x%2^s=0)(hw:x+y<BB):nG .or .u64 y x=x+y:=by
 rw[<-Za hx hy hs hd hw];unfold nG;dsimp only;rw[BitVec.or_comm]
def Ll(ha:okW a)(hs:s<=63)(hl:a.length<2199023255552):Yd (fun w=>okW w/\w.length=a.length+1/\aL w=aL a*2^s) (rX a (s:Int)):=by
 unfold rX;refine Yd.bd (aM ⟨by omega,by omega⟩) (Yd.bd (I2 (by omega) (by omega) (by omega)) ?_);have ps:=two_pos s;refine Yd.lp (fun t:asv Int×Int=>okW t.1/\t.1.length=a.length+1/\0<=t.2/\t.2<=a.length/\t.1.getD t.2.toNat 0<2^s/\(∀m,t.2.toNat<m->t.1.getD m 0=0)/\aL (t.1.take<|t.2.toNat+1)=aL (a.take t.2.toNat)*2^s)
  (fun t:asv Int×Int=>a.length-t.2.toNat) ?_ _ _ ⟨o6 _,by simp only[vW];omega,by dsimp only;omega,by dsimp only;omega,?_,?_,?_⟩ (by dsimp only;omega)
 rotate_left
 ·dsimp only;rw[O7];exact ps
 ·intro m hm;exact O7
 ·dsimp only;rw[Jw,y5];simp[aL]
 rintro next ⟨o,i⟩ ⟨h1,h2,h3,h4,h5,h6,h7⟩ hn
 simp only at h1 h2 h3 h4 h5 h6 h7 hn⊢;obtain⟨n,rfl⟩:=gQ h3;simp only[Int.toNat_natCast,ur] at*;refine Yd.cond (fun hc=>?_)<|fun hc=>?_
 ·have hc:=bg hc;refine Yd.jn (fun p:asv Int=>okW p/\p.length=a.length+1/\p.getD (n+1) 0<2^s/\(∀m,n+1<m->p.getD m 0=0)/\aL (p.take<|n+2)=aL (a.take<|n+1)*2^s) ?_ ?_
  ·rintro p ⟨g1,g2,g3,g4,g5⟩;refine Yd.bd (aM ⟨by omega,by omega⟩) (hn _ ⟨g1,g2,by dsimp only;omega,by dsimp only;omega,?_⟩ (by dsimp only;omega));have e:(((n:Nat):Int)+1).toNat=n+1:=by omega
   simp only[e];exact⟨g3,g4,g5⟩
  ·intro k hk;obtain⟨lo,hi,b1,b2,b3,b4,b5,b6,b7,b8⟩:=Lf (x:=a.getD n 0) (s:=s) (by omega)<|fu ha n
   have amc:=UC (by omega) b7 b4;have ho:=fu h1 n;have eor:nG .or .u64 (o.getD n 0) lo=lo+o.getD n 0:=Vz b3 ho.1 h5 b7 (by omega);refine Yd.bd (b9 (by omega)) (Yd.bd (b9 (by omega)) (Yd.bd (b9 (by omega)) (Yd.bd b1 (Yd.bd (b9 (by omega)) (Yd.bd (b9 (by omega)) ?_)))));rw[eor];have Vb:hi<BB:=by
    have h2:=rL (s:=s) (by omega);have:=two_pos<|64-s
    have:(2:Int)^s*1<=2^s*2^(64-s):=kc this<|gj ps
    omega
   have adr:aL (o.take n)+ie n*o.getD n 0=aL (a.take n)*2^s:=by rw[<-h7,bo]
   have EL:aL (o.take n)+ie n*(lo+o.getD n 0)+ie (n+1)*hi=aL (a.take<|n+1)*2^s:=by
    rw[bo a,ll,<-adr,fp,b8,bC,bC,jY,iU<|ie n,fp BB];omega
   refine Yd.cond (fun hd=>?_)<|fun hd=>?_
   ·have hd:=bg hd;have e1:((n:Nat):Int)+1=((n+1:Nat):Int):=by omega
    rw[e1];refine Yd.bd (aM ⟨by omega,by omega⟩) (Yd.bd (aM ⟨by omega,by omega⟩)<|Yd.bd b2 ?_);refine Yd.bd (b9 (by rw[pk];omega)) (Yd.bd (b9 (by rw[pk];omega)) ?_);simp only[Int.toNat_natCast];refine hk _ ⟨mW (mW h1 _ ⟨by omega,by omega⟩) _ ⟨b5,Vb⟩,by simpa using h2,?_,?_,?_⟩
    ·rw[dR (by rw[pk];omega)];exact b6
    ·intro m hm;rw[getD_set_ne (by omega),getD_set_ne (by omega)];exact h6 m (by omega)
    ·rw[bo,dK<|bG _,dR (by rw[pk];omega),bo,dK<|bG _,dR (by omega)];exact EL
   ·have hd:=bV hd;have hs0:s=0:=by omega
    subst hs0;have apm:hi=0:=by rw[Int.pow_zero] at b6;omega
    subst apm;refine hk _ ⟨mW h1 _ ⟨by omega,by omega⟩,by simpa using h2,?_,?_,?_⟩
    ·rw[getD_set_ne (by omega),h6 _ (by omega)];exact ps
    ·intro m hm;rw[getD_set_ne (by omega)];exact h6 m (by omega)
    ·have e2:(o.set n<|lo+o.getD n 0).getD (n+1) 0=0:=by rw[getD_set_ne (by omega),h6 _ (by omega)]
     rw[bo,e2,bo,dK<|bG _,dR (by omega)];exact EL
 ·have hc:=bV hc;have Lx:n=a.length:=by omega
  subst Lx;refine Yd.mk ⟨h1,h2,?_⟩;rw[fe (l:=o) (by omega),fe (l:=a) (by omega)] at h7;exact h7
def YB{m:Int}(hP:0<P)(hU:UL<P)(hV:0<=VL)(hm:0<=m)(h:X+1<=m*Y):UL+P*X<m*(VL+P*Y):=by
 have h1:=kc h<|gj hP
 rw[bC,qa] at h1;have h2:0<=m*VL:=rm hm hV;rw[bC,iU m P Y];omega
def agl(e:q*v1+r=U2)(h:BB*r+u0<q*v0):(u0+BB*U2)+1<=q*(v0+BB*v1):=by
 rw[bC,iU q BB v1,<-e,bC];omega
def agm(e:q*v1+r=U2)(hr:r<v1)(hu:u0<BB)(hq:0<=q)(hv:0<=v0):(u0+BB*U2)+1<=(q+1)*(v0+BB*v1):=by
 rw[bC,iU _ BB v1,<-e,ll q 1 v1,Int.one_mul];have:0<=(q+1)*v0:=rm (by omega) hv;unfold BB at*;omega
def agn{R:Int}(e:q*v1+R=U2)(hq:0<=q/\q<BB)(hR:0<=R)(L7:0<=v0/\v0<BB)(hu0:0<=u0)(hv1:BB<=2*v1)(h:BB<=R\/q*v0<=BB*R+u0)
 (hP:0<P)(hU:0<=UL)(hV:VL<P)(hV0:0<=VL):(q-1)*(VL+P*(v0+BB*v1))<=UL+P*(u0+BB*U2):=by
 have hY:q*(v0+BB*v1)<=u0+BB*U2:=by
  rw[bC,iU q BB v1,<-e,bC];have:q*v0<=BB*R+u0:=by
   rcases h with h|h
   ·have:q*v0<=(BB-1)*(BB-1):=wH (by omega) (by omega) L7.1 (by unfold BB;omega);unfold BB at*;omega
   ·exact h
  omega
 have h1:=kc hY<|gj hP
 have h2:q*VL<=BB*P:=wH (by omega) (by omega) hV0 (by unfold BB;omega);have h3:P*BB<=P*(v0+BB*v1):=kc (by unfold BB at*;omega)<|gj hP
 rw[Int.sub_mul,Int.one_mul,bC q,iU q P];rw[Int.mul_comm P BB] at h3;omega
def aiW{u1 u2:Int}(hP:0<P)(hU:0<=UL)(hu0:0<=u0)(hu1:0<=u1)(hV:VL<P)(L7:v0<BB)(h:UL+P*(u0+BB*(u1+BB*u2))<BB*(VL+P*(v0+BB*v1))):u2<=v1:=by
 rcases(show v1<u2\/u2<=v1 by omega) with h'|h'
 ·exfalso;have h1:BB*(v0+BB*v1+1)<=u0+BB*(u1+BB*u2):=by unfold BB at*;omega
  have h2:=kc h1<|gj hP
  rw[iU P BB,bC P _ 1,qa] at h2;rw[bC BB VL] at h;rw[bC BB _ P] at h2;have h3:BB*VL<=BB*P:=kc (by omega) (by unfold BB;omega);omega
 ·exact h'
end
end Trn
