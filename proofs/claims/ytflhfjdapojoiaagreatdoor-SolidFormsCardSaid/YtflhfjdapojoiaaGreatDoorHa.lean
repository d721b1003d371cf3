/-
  Part of the proof of SolidForms.
-/
import Derived.Test.YtflhfjdapojoiaaGreatDoorFa
import Derived.Test.YtflhfjdapojoiaaGreatDoorMa
import Derived.Test.YtflhfjdapojoiaaGreatDoorSa
import Derived.Shelf.SlSortCmp.NoneTotal
set_option maxRecDepth 100000
set_option maxHeartbeats 20000000
set_option linter.all false
open Go Go.RowKit Go.Proofs Go.Proofs.Tryz
namespace Trn
section
open Go.Shelf
variable[D:DR]
variable{k:Nat}{xs:A3 AO}
def chunk(k:Nat)(xs:A3 AO)(i:Nat):A3 AO:=(xs.drop<|i*k).take k
theorem RC{n:Nat}(h:xs.length=n*k){i:Nat}(hi:i<n):(chunk k xs i).length=k:=by
 have:(i+1)*k<=n*k:=Hg k hi;rw[Iv,Ly] at this;simp[chunk];omega
theorem vn{n:Nat}(h:xs.length=n*k){t:Nat}(ht:t<n*k):(chunk k xs<|t/k)[t%k]? =xs[t]? :=by
 have hk:0<k:=(LK k).elim (λe=>by subst e;simp at ht) id;have hm:=N8 t hk;unfold chunk;rw[QA,if_pos hm,P8]
 congr 1
 rw[Jw];exact Nat.div_add_mod t k
theorem ag3{ys:A3 AO}(h:ys.length=k):chunk k (ys++xs) 0=ys:=by
 simp[chunk,<-h]
theorem ag4{ys:A3 AO}(h:ys.length=k)(i:Nat):chunk k (ys++xs) (i+1)=chunk k xs i:=by
 unfold chunk;rw[Iv,Ly,P2,<-h,Nw];have e:List.drop (ys.length+i*ys.length) ys=[]:=List.drop_eq_nil_of_le (by omega);rw[e,I4]
 congr 2;omega
end
section
open Go.Shelf
variable[D:DR]
variable{P:Program}{A:Type}{τ:A->Ty}{k:Nat}{H:HV}
theorem Sw(hn:∀a,(τ a).n=k)(ha:∀a,(τ a).agg=true):∀{l:A3 A} {xs:A3 AO},D4 H (lT τ l) xs->xs.length=l.length*k/\∀i (hi:i<l.length),(τ l[i]).ok H (.agg (chunk k xs i).toArray)
 |[],xs,h=>by
  have h:xs=[]:=h;subst h;exact⟨by simp,λi hi=>absurd hi<|Nat.not_lt_zero _⟩
 |a::l,xs,h=>by
  obtain⟨v,rest,e,hv,hr⟩:=h;have sh:=(τ a).shape hv;obtain⟨hl,hc⟩:=Sw hn ha hr;have hs:v.cells.toList.length=k:=by rw[EB,sh.size,hn]
  subst e;refine⟨by simp only[ES,hs,hl,DF];rw[Iv];omega,λi hi=>?_⟩;cases i with
  |zero=>
   rw[ag3 hs];have e:=sh.eq;rw[ha] at e;have e:v= .agg v.cells:=e;simpa[<-e] using hv
  |succ i=>
   rw[ag4 hs];exact hc i (by simpa using hi)
theorem bK:∀{l:A3 A} {xs:A3 AO},xs.length=l.length*k->(∀i (hi:i<l.length),(τ l[i]).ok H<| .agg (chunk k xs i).toArray)->D4 H (lT τ l) xs
 |[],xs,h,_=>JS (by simpa using h)
 |a::l,xs,h,hc=>by
  have hlen:xs.length=k+l.length*k:=by simpa[Iv,P2] using h
  have h0:=hc 0 (by simp);have e0:chunk k xs 0=xs.take k:=by simp[chunk]
  rw[e0] at h0;refine⟨_,xs.drop k,?_,h0,bK (by simp[hlen]) λi hi=>?_⟩
  ·simp[Value.cells]
  ·have:=hc (i+1) (by simpa using hi);have e:chunk k xs (i+1)=chunk k (xs.drop k) i:=by
    unfold chunk;rw[F4,Iv,Ly,P2]
   rwa [e] at this
end
section
open Go.Shelf
variable[D:DR]
variable{w:AK}
theorem yT{w':AK}(h: @F1 DR.strict w.heap.size w w'):∃q os,w'=Go.Sort.grow (w.drewN q) os:=by
 refine⟨w'.drawn-w.drawn,w'.heap.extract w.heap.size w'.heap.size,?_⟩;have hd:w.drawn+(w'.drawn-w.drawn)=w'.drawn:=by have h:w.drawn<=w'.drawn:=F1.drawn (D:=DR.strict) h;omega
 have hh:w.heap++w'.heap.extract w.heap.size w'.heap.size=w'.heap:=by
  apply Array.ext_getElem?;intro i;rw[fj];have hs:=(F1.toBelow (D:=DR.strict) h).size;split
  ·rename_i hi;exact((F1.toBelow (D:=DR.strict) h).block i hi).symm
  ·rename_i hi;rw[Array.getElem?_extract];by_cases h2:i-w.heap.size<min w'.heap.size w'.heap.size-w.heap.size
   ·rw[if_pos h2];congr 1;omega
   ·rw[if_neg h2]
    symm;apply Yp
    omega
 obtain⟨heap,tape,drawn,os,output⟩:=w';obtain⟨atI,atF,atE,os0,atB⟩:=w;simp only[World.drewN,Go.Sort.grow];simp only[World.mk.injEq];have hb:=F1.toBelow (D:=DR.strict) h;exact⟨hh.symm,hb.tape,hd.symm,hb.os,hb.output⟩
theorem X4{α:Type}[Inhabited α]{enc:α->A3 AO}{k:Nat}{blk off m:Nat}{dk:Aw α}{os:Aw Obj}{r:Nat}(hr:r<w.heap.size)(hne:r≠blk):(sortWorldK enc k w blk off m dk os).heap[r]? =w.heap[r]? :=by
 unfold sortWorldK Go.Sort.grow Go.Sort.putRowK Go.Sort.putRow Go.Sort.mapBlock Go.Sort.ahead;simp only[fj,Array.size_modify,hr,if_pos,TZ];rw[if_neg<|λe=>hne e.symm]
theorem je{α:Type}[Inhabited α]{enc:α->A3 AO}{k:Nat}{blk off m:Nat}{dk:Aw α}{os:Aw Obj}:w.heap.size<=(sortWorldK enc k w blk off m dk os).heap.size:=by
 unfold sortWorldK Go.Sort.grow Go.Sort.putRowK Go.Sort.putRow Go.Sort.mapBlock Go.Sort.ahead;simp
end
section
open Go.Shelf
variable[D:DR]
variable{P:Program}{A:Type}{τ:A->Ty}{k:Nat}{H:HV}{c:A×A->Option Int}
theorem um(hn:∀a,(τ a).n=k)(ha:∀a,(τ a).agg=true){l:A3 A}{xs:A3 AO}{w:AK}{blk off g:Nat}{cap:Aw AO}{Ei:A3 Ty}(hxs:D4 H (lT τ l) xs)
  (sub:∀r o,H r=some o->w.heap[r]? =some o)(gl:Kp P H)(hB:H blk=none)(QT:EW H Ei cap.toList)
  (hf:∀a r,c a=some r-> @EE DR.strict P g ([τ a.1,τ a.2]++Ei) (.vs [TI .i64 r]))(cf:Fin l.length->Fin l.length->Int)(tot:∀i j,c (l[i],l[j])=some (cf i j))[Inhabited<|Fin l.length]:
  CmpLays P g cap (λi:Fin l.length=>chunk k xs i) k cf blk off l.length w:=by
 intro m os dk hdk x y;obtain⟨_,hc⟩:=Sw hn ha hxs;have hs:∀r o,H r=some o->(sortWorldK (λi:Fin l.length=>chunk k xs i) k w blk off m dk os).heap[r]? =some o:=λr o h=>by
  have h1:=sub r o h;rw[X4 (lt_of_heap h1) (λe=>by rw[e,hB] at h;cases h)];exact h1
 have hr:=EE.run (D:=DR.strict) (hf (l[x],l[y]) _<|tot x y) _ H ([Value.agg (chunk k xs x).toArray,Value.agg (chunk k xs y).toArray]++cap.toList) hs gl<|Xj ⟨_,_,rfl,hc x x.2,_,_,rfl,hc y y.2,rfl⟩ QT
 have ea:([Value.agg (chunk k xs x).toArray,Value.agg (chunk k xs y).toArray]++cap.toList).toArray= #[Value.agg (chunk k xs x).toArray,Value.agg (chunk k xs y).toArray]++cap:=by simp
 rw[ea] at hr;refine hr.mono ?_;rintro e w' ⟨v,rfl,hb,H',_,_,hv⟩;have hv:v= .int .i64 (cf x y):=hv;subst hv;exact⟨rfl,yT hb⟩
end
section
open Go.Shelf
variable[D:DR]
variable{α:Type}{k:Nat}{cur:Aw AO}
theorem lO[Inhabited α]{enc:α->A3 AO}(hk:∀x,(enc x).length=k){d:Aw α}{i:Nat}(hi:i<d.size):chunk k (Go.Sort.flatK enc k d).toList i=enc d[i]! :=by
 have hb:i*k+k<=d.size*k:=by
  have:=Hg k<|show i+1<=d.size from hi
  rwa [Iv,Ly] at this
 apply VW;intro t;unfold chunk;rw[QA];by_cases ht:t<k
 ·rw[if_pos ht,P8,MY];have hlt:i*k+t<d.size*k:=by omega
  have e1:(i*k+t)/k=i:=by rw[Jw,Nat.mul_add_div (by omega),Nat.div_eq_of_lt ht,Re]
  have e2:(i*k+t)%k=t:=by rw[Jw,Nat.mul_add_mod,Rj ht]
  have hl:=hk d[i]!;unfold Go.Sort.flatK;rw[Array.getElem?_map,Array.getElem?_range,if_pos hlt,P6,e1,e2,JM (enc d[i]!) t (by omega),Fe (by omega)]
 ·rw[if_neg ht,Vd (by rw[hk];omega)]
theorem tP{n:Nat}{xs:A3 AO}{w:AK}{blk:Nat}{E:Af}[Inhabited<|Fin n](hl:xs.length=n*k)(hb:w.heap[blk]? =some (.cells cur E (0,0)))(ht:cur.toList.take (n*k)=xs):
  Go.Sort.HoldsK (λi:Fin n=>chunk k xs i) k w blk 0 (Array.ofFn λi:Fin n=>i):=by
 unfold Go.Sort.HoldsK Go.Sort.Holds;intro j hj;rw[Go.Sort.size_flatK,VS] at hj;have LZ:cur[j]? =xs[j]? :=by rw[<-ht,QA,if_pos hj,MY]
 have hk:0<k:=(LK k).elim (λe=>by subst e;simp at hj) id;have hi:j/k<n:=Nat.div_lt_of_lt_mul (by rw[Jw];exact hj);refine⟨?_,by simp[World.frozen?,hb]⟩;rw[Go.Sort.get_flatK _ _ _ _ (by simpa using hj),Nt];rw[Yi hb,LZ];have e1:(Array.ofFn λi:Fin n=>i)[j/k]! =⟨j/k,hi⟩:=by rw[JM (Array.ofFn λi:Fin n=>i) (j/k) (by simpa using hi)];simp
 rw[e1];have hg:=vn hl hj;have hlt:j%k<(chunk k xs<|j/k).length:=by rw[RC hl hi];exact N8 _ hk
 show xs[j]? =some (id (chunk k xs<|j/k)[j%k]!);rw[<-hg,JM (chunk k xs<|j/k) (j%k) hlt,Fe hlt];rfl
theorem rD[Inhabited α]{enc:α->A3 AO}{w:AK}{blk m:Nat}{dk:Aw α}{os:Aw Obj}{E:Af}{fr:Nat×Nat}(hb:w.heap[blk]? =some (.cells cur E fr)):
  (sortWorldK enc k w blk 0 m dk os).heap[blk]? =some (.cells (Go.Sort.putCells id 0 (Go.Sort.flatK enc k dk) cur) E fr):=by
 unfold sortWorldK Go.Sort.grow Go.Sort.putRowK Go.Sort.putRow Go.Sort.mapBlock Go.Sort.ahead;simp only[fj,Array.size_modify,lt_of_heap hb,if_pos,TZ,hb,P6]
 rfl
theorem so[Inhabited α]{d:Aw AO}(h:d.size<=cur.size):(Go.Sort.putCells id 0 d cur).toList.take d.size=d.toList:=by
 apply VW;intro i;rw[QA];split
 ·rename_i hi;rw[MY,MY];unfold Go.Sort.putCells;rw[Array.getElem?_mapIdx,Vf (by omega:i<cur.size),P6,if_pos ⟨F2 _,by omega⟩,Nat.sub_zero,Vf hi,JM d i hi];rfl
 ·rename_i hi;rw[Vd (by simpa using hi)]
end
section
open Go.Shelf
variable[D:DR]
variable{P:Program}{ρ:Ren}{A:Type}[DecidableEq A]{τ:A->Ty}{k:Nat}{c:A×A->Option Int}
variable{l r:A3 A}
theorem agv{α:Type}{l:A3 α}{d:Aw (Fin l.length)}(h:d.toList.Perm (Array.ofFn λi:Fin l.length=>i).toList):(d.toList.map λi=>l[i]).Perm l:=by
 have h1:=h.map λi:Fin l.length=>l[i]
 have e:(Array.ofFn λi:Fin l.length=>i).toList.map (λi:Fin l.length=>l[i])=l:=by
  rw[Array.toList_ofFn,List.map_ofFn];exact List.ofFn_getElem
 rwa [e] at h1
theorem vC(hm:I2 l c=some r)[Inhabited<|Fin l.length]{cf:Fin l.length->Fin l.length->Int}(tot:∀i j,c (l[i],l[j])=some (cf i j)){d:Aw (Fin l.length)}
 (hp:Go.Sort.PermIn 0 l.length (Array.ofFn λi:Fin l.length=>i) d)(hs:Go.Sort.SortedIn (ltOf cf) 0 l.length d):d.size=l.length/\(d.toList.map λi=>l[i])=r:=by
 obtain⟨h1,h2,_,_⟩:=XZ hm;obtain⟨hz,_,WD⟩:=hp;rw[VS] at hz;have e1:d.extract 0 d.size=d:=Array.extract_size;rw[hz] at e1;have e2:(Array.ofFn λi:Fin l.length=>i).extract 0 l.length=Array.ofFn λi:Fin l.length=>i:=by
  have h:(Array.ofFn λi:Fin l.length=>i).extract 0 (Array.ofFn λi:Fin l.length=>i).size=Array.ofFn λi:Fin l.length=>i:=Array.extract_size
  rwa [VS] at h
 rw[e1,e2] at WD;have JE:=agv WD;refine⟨hz,vB h2 (JE.trans h1.symm) ?_⟩;refine Yu.2 λi j hi hj Jm=>?_
 simp only[Bw,EB] at hi hj;have hlt:=hs i j (F2 _) Jm (by omega);rw[JM d j hj,JM d i hi] at hlt;simp only[List.getElem_map,Array.getElem_toList];have hn: ¬cf d[j] d[i]<0:=by simpa[ltOf] using hlt
 have mem:∀i:Fin l.length,l[i]∈r:=λi=>h1.mem_iff.2<|Kg _
 have:=mt (da h2 (mem d[j]) (mem d[i])<|tot d[j] d[i]).2 hn;omega
theorem wA(hm:I2 l c=some r){cf:Fin l.length->Fin l.length->Int}(tot:∀i j,c (l[i],l[j])=some (cf i j)):Go.Sort.SWO (ltOf cf):=by
 obtain⟨h1,h2,_,_⟩:=XZ hm;have mem:∀i:Fin l.length,l[i]∈r:=λi=>h1.mem_iff.2<|Kg _
 have key:∀i j,ltOf cf i j=decide (r.idxOf l[i]<r.idxOf l[j]):=λi j=>by
  unfold ltOf;exact GW.2<|da h2 (mem i) (mem j)<|tot i j
 refine⟨λx=>?_,λx y z h1 h2=>?_,λx y z h1 h2=>?_⟩
 ·rw[key];simp
 ·rw[key] at*;simp only[Ev] at*;omega
 ·rw[key] at*;simp only[HB] at*;omega
theorem aiM(hn:∀a,(τ a).n=k)(ha:∀a,(τ a).agg=true){xs:A3 AO}{H:HV}{w:AK}{blk EF:Nat}{cur:Aw AO}{E:Af}{B:AX P}(sub:∀r o,H r=some o->w.heap[r]? =some o)(Al:D4 H (lT τ l) xs)
 (hown:∀b,Value.ownBlock (.slice (some ⟨blk,0,none⟩) l.length EF)=some b->H b=none/\B.Du b)(hblk:w.heap[blk]? =some (.cells cur E (0,0)))(hnc:l.length<=EF)(hcm:EF<=maxLen)(hcs:cur.size=EF*k)[Inhabited<|Fin l.length]
 {d':Aw (Fin l.length)}(hdz:d'.size=l.length)(hdr:(d'.toList.map λi=>l[i])=r)(m:Nat)(os:Aw Obj):
  QV (λb=>Value.ownBlock (.slice (some ⟨blk,0,none⟩) l.length EF)=some b) w H (sortWorldK (λi:Fin l.length=>chunk k xs i) k w blk 0 m d' os) H/\Kq B (sortWorldK (λi:Fin l.length=>chunk k xs i) k w blk 0 m d' os) H E k (lT τ r) (.slice (some ⟨blk,0,none⟩) l.length EF):=by
 obtain⟨Fx,Jo⟩:=Sw hn ha Al;have hrl:r.length=l.length:=by rw[<-hdr];simpa using hdz
 have Gz:=rD (enc:=λi:Fin l.length=>chunk k xs i) (k:=k) (m:=m) (dk:=d') (os:=os) hblk;have Jn:(Go.Sort.flatK (λi:Fin l.length=>chunk k xs i) k d').size=l.length*k:=by rw[Go.Sort.size_flatK,hdz]
 have hle:l.length*k<=cur.size:=by rw[hcs];exact Hg k hnc
 have Mh:=so (α:=Fin l.length) (d:=Go.Sort.flatK (λi:Fin l.length=>chunk k xs i) k d') (cur:=cur) (by rw[Jn];exact hle);refine⟨Tr.Ku (M:=λb=>Value.ownBlock (.slice (some ⟨blk,0,.none⟩) l.length EF)=some b) ⟨je,rfl,rfl,rfl,?_,λi hi hne=>X4 hi (λe=>hne (by rw[e];rfl))⟩ sub λb hb=>(hown b hb).1,
   ⟨(Go.Sort.flatK (λi:Fin l.length=>chunk k xs i) k d').toList,?_,?_,hown⟩⟩
 ·refine GQ.of ?_;show w.drawn<=(sortWorldK _ k w blk 0 m d' os).drawn;unfold sortWorldK Go.Sort.grow Go.Sort.putRowK Go.Sort.putRow Go.Sort.mapBlock Go.Sort.ahead;exact TV _ _
 ·have To:(lT τ r).length=l.length:=by rw[Bw,hrl]
  rw[To];refine⟨by rw[EB,Jn],.inr ⟨blk,EF,_,rfl,F2 _,Gz,hnc,hcm,?_,?_⟩⟩
  ·rw[<-hcs];simp[Go.Sort.putCells]
  ·rw[<-Jn];exact Mh
 ·refine bK (by rw[EB,Jn,hrl]) λi hi=>?_
  have hi2:i<d'.size:=by omega
  rw[lO (λi=>RC Fx i.2) hi2];rw[JM d' i hi2];have e:r[i]=l[d'[i]]:=by
   have:r[i]? =(d'.toList.map λi=>l[i])[i]? :=by rw[hdr]
   rw[Fe hi,GX,MY,Vf hi2] at this;simpa using this
  rw[e];exact Jo _ d'[i].2
set_option maxHeartbeats 1000000 in
theorem lZ(L:SlLaysF0.n6 P ρ)(aE:∀w,(isAgg<|ρ.t 24).run P w= .ok true w)(zE:∀w,(Go.sizeOf<|ρ.t 24).run P w= .ok k w)(hc:GA P (ρ.f 6)=true)
 (hn:∀a,(τ a).n=k)(ha:∀a,(τ a).agg=true)(none:∀(p:A6 Addr) (cap:Nat) (fv:AO) (w:AK),Calls P (ρ.f 6) #[.slice p 0 cap,fv] w λe w'=>e= .returned (.tuple #[])/\w'=w)
 (hm:I2 l c=some r):
  IN P (ρ.f 6) [] (.buf (ρ.t 24) k<|lT τ l) (.buf (ρ.t 24) k<|lT τ r) [KS P (λx:A×A=>[τ x.1,τ x.2]) (λx:Int=>[(TI .i64) x]) c] []:=by
 obtain⟨h1,h2,h3,h4⟩:=XZ hm;refine⟨hc,λw H v ps qs sub gl hp hq hs=>?_⟩;have hp:=YO hp;subst hp;obtain⟨fv,rfl,hfv⟩:=Ns hq;obtain⟨g,cap,Ei,rfl,QT,hf⟩:=hfv;obtain⟨xs,hown,Al,hH⟩:=hs;have hlen:(lT τ l).length=l.length:=Bw ..;rw[hlen] at hown;have Ku:∀b,v.ownBlock=some b->H b= .none:=λb hb=>(hH b hb).1
 by_cases hl0:l=[]
 ·subst hl0;have hr:r=[]:=List.Perm.eq_nil h1;subst hr;obtain⟨p,EF,rfl⟩:∃p EF,v= .slice p 0 EF:=by
   rcases hown.2 with⟨hv,_⟩|⟨g,cap,cur,hv,_⟩
   ·exact⟨_,_,hv⟩
   ·exact⟨_,_,hv⟩
  refine(none p EF _ w).mono ?_;rintro e w' ⟨rfl,rfl⟩;exact⟨_,rfl,H,(Tr.refl _ _).Ku sub Ku,⟨xs,hown,Al,hH⟩,λb hb=> .inl hb,#[],rfl,rfl⟩
 ·have hpos:0<l.length:=Vb.2 hl0;obtain⟨blk,EF,cur,rfl,hblk,hnc,hcm,hcs,htake⟩:∃blk EF cur,v= .slice (some ⟨blk,0,.none⟩) l.length EF/\w.heap[blk]? =some (.cells cur (ρ.t 24) (0,0))/\l.length<=EF/\EF<=maxLen/\cur.size=EF*k/\cur.toList.take (l.length*k)=xs:=by
   rcases hown.2 with⟨_,hz⟩|⟨g,cap,cur,hv,_,r⟩
   ·omega
   ·exact⟨g,cap,cur,hv,r⟩
  haveI:Inhabited (Fin l.length):=⟨⟨0,hpos⟩⟩
  obtain⟨Fx,Jo⟩:=Sw hn ha Al
  let cf:Fin l.length->Fin l.length->Int:=λi j=>(c (l[i],l[j])).getD 0
  have tot:∀i j:Fin l.length,c (l[i],l[j])=some (cf i j):=λi j=>by
   obtain⟨v,hv⟩:=h3 _ (Kg i.2) _<|Kg j.2
   have hv:c (l[i],l[j])=some v:=hv;show c (l[i],l[j])=some ((c (l[i],l[j])).getD 0);rw[hv];rfl
  have hB:H blk= .none:=Ku blk rfl;have U3:=EE.can (D:=DR.strict)<|hf _ _<|tot ⟨0,hpos⟩ ⟨0,hpos⟩
  have hcmp:=um (P:=P) (off:=0) hn ha Al sub gl hB QT hf cf tot;have hd:(Array.ofFn λi:Fin l.length=>i).size=l.length:=VS;have main:=AnyQ.slices_SortFunc L k aE zE (λi:Fin l.length=>chunk k xs i) (λi=>RC Fx i.2)
   (λi u hu=>RJ Al u<|QC<|OA hu) cf (wA hm tot) g cap blk 0 EF (Array.ofFn λi:Fin l.length=>i) w
   (λargs w=>Ob U3 args w) (by rw[hd];exact hcmp) (tP Fx hblk htake) (lt_of_heap hblk) (by rw[hd];exact h4)
  rw[hd] at main;refine main.mono ?_;rintro e w' ⟨rfl,d',m,os,WD,pT,rfl⟩;obtain⟨hdz,hdr⟩:=vC hm tot WD pT;obtain⟨ht,hr⟩:=aiM hn ha (B:=AX.OQ P w λb=>(AJ.buf (ρ.t 24) k<|lT τ l).owns w (.slice (some ⟨blk,0,.none⟩) l.length EF) b) sub Al hH hblk hnc hcm hcs hdz hdr m os;exact⟨_,rfl,H,ht,hr,λb hb=> .inl hb,#[],rfl,rfl⟩
end
section
open Go.Shelf Go.Sort
variable[D:DR]
variable{n:Nat}{dk:Aw (Fin n)}{kp:Nat->Bool}{k m kk blk off:Nat}
structure Na(n:Nat)(kp:Nat->Bool)(m kk:Nat)(dk:Aw (Fin n)):Prop where
 size:dk.size=n
 le:kk<m
 low:(dk.toList.take kk).map (·.val)=(List.range m).filter kp
 high:∀j (hj:j<n),m-1<=j->∀h:j<dk.size,dk[j]=⟨j,hj⟩
theorem Na.len(h:Na n kp m kk dk)(hm:m<=n):kk=((List.range m).filter kp).length:=by
 rw[<-h.low,Bw,DI,EB,h.size];have:=h.le;omega
theorem Na.start(hk:k<n)(hall:∀j,j<k->kp j=true)(hn:kp k=false):Na n kp (k+1) k (Array.ofFn λi:Fin n=>i):=by
 refine⟨by simp,by omega,?_,λj hj _ h=>by simp⟩;rw[List.range_succ,Rn,List.filter_eq_self.2<|λj hj=>hall j<|P5.1 hj];have e:List.filter kp [k]=[]:=by simp[hn]
 rw[e,JQ,Array.toList_ofFn];apply VW;intro i;rw[GX,QA];by_cases hi:i<k
 ·rw[if_pos hi,Fe (by simp;omega),Fe (by simpa using hi)];simp
 ·rw[if_neg hi,Vd (by simpa using hi)];rfl
theorem Na.skip(h:Na n kp m kk dk)(hn:kp m=false):Na n kp (m+1) kk dk:=by
 have:=h.le;refine⟨h.size,by omega,?_,λj hj hm=>h.high j hj (by omega)⟩;rw[List.range_succ,Rn,<-h.low];simp[hn]
theorem Na.Dh(h:Na n kp m kk dk)(hm:m<n)(hn:kp m=true):Na n kp (m+1) (kk+1) (dk.setIfInBounds kk ⟨m,hm⟩):=by
 have h0:=h.le;refine⟨by simp[h.size],by omega,?_,λj hj Jl h2=>?_⟩
 ·rw[List.range_succ,Rn,<-h.low];have e:List.filter kp [m]=[m]:=by simp[hn]
  rw[e];have hs:=h.size;have hkk:kk<dk.toList.length:=by rw[EB,hs];omega
  rw[ft,fO,List.take_set_of_le<|Az _,Rp hkk,LJ]
  rfl
 ·rw[Array.getElem_setIfInBounds (by simpa using h2),if_neg (by omega)];exact h.high j hj (by omega) _
theorem ale{P:Bs}{A:Type}{τ:A->Ty}{H:HV}{c:A×A->A6 Bool}(hn:∀a,(τ a).n=k)(ha:∀a,(τ a).agg=true){l:A3 A}{xs:A3 AO}{w:AK}{g:Nat}{cap:Aw AO}{Ei:A3 Ty}(hxs:D4 H (lT τ l) xs)
 (sub:∀r o,H r=some o->w.heap[r]? =some o)(gl:Kp P H)(hB:H blk=none)(QT:EW H Ei cap.toList)
 (hf:∀a r,c a=some r-> @EE DR.strict P g ([τ a.1,τ a.2]++Ei) (.vs [Ar r]))[Inhabited<|Fin l.length](m:Nat)(os:Aw Obj)(dk:Aw (Fin l.length))(x y:Fin l.length){b:Bool}(hb:c (l[x],l[y])=some b):
  Calls P g (#[.agg (chunk k xs x).toArray,.agg (chunk k xs y).toArray]++cap) (sortWorldK (λi:Fin l.length=>chunk k xs i) k w blk off m dk os) λe w'=>e= .returned (.bool b)/\∃q os',w'=Go.Sort.grow ((sortWorldK (λi:Fin l.length=>chunk k xs i) k w blk off m dk os).drewN q) os':=by
 obtain⟨_,hc⟩:=Sw hn ha hxs;have hs:∀r o,H r=some o->(sortWorldK (λi:Fin l.length=>chunk k xs i) k w blk off m dk os).heap[r]? =some o:=λr o h=>by
  have h1:=sub r o h;rw[X4 (lt_of_heap h1) (λe=>by rw[e,hB] at h;cases h)];exact h1
 have hr:=EE.run (D:=DR.strict) (hf (l[x],l[y]) _ hb) _ H ([Value.agg (chunk k xs x).toArray,Value.agg (chunk k xs y).toArray]++cap.toList) hs gl<|Xj ⟨_,_,rfl,hc x x.2,_,_,rfl,hc y y.2,rfl⟩ QT
 have ea:([Value.agg (chunk k xs x).toArray,Value.agg (chunk k xs y).toArray]++cap.toList).toArray= #[Value.agg (chunk k xs x).toArray,Value.agg (chunk k xs y).toArray]++cap:=by simp
 rw[ea] at hr;refine hr.mono ?_;rintro e w' ⟨v,rfl,hb,H',_,_,hv⟩;have hv:v= .bool b:=hv;subst hv;exact⟨rfl,yT hb⟩
theorem sK{cs:Aw AO}:(Builtin.zeroCells cs n).toList.length=n*cs.size:=by simp[Builtin.zeroCells]
theorem acy{cs:Aw AO}(h:∀v∈cs.toList,v.oneCell'=true):∀v∈(Builtin.zeroCells cs n).toList,v.oneCell'=true:=by
 intro v hv;unfold Builtin.zeroCells at hv;rw[Array.toList_map,BI] at hv;obtain⟨i,hi,rfl⟩:=hv;have hi:i<n*cs.size:=by simpa using hi
 have hp:0<cs.size:=(LK cs.size).elim (λe=>by rw[e] at hi;simp at hi) id;have hm:=N8 i hp;rw[JM cs (i%cs.size) hm];exact h _ (by simp)
theorem acK{P:Bs}{W:AK}{S E ty:Af}{z:AO}{c s:Nat}{F:Aw AO}(hS:P.underlying S=some (.slice E))(hz:∀w,(zeroValue E).run P w= .ok z w)(h1:∀v∈z.cells.toList,v.oneCell'=true)(h:Holds id W blk off F)
 (hs:s+n*z.cells.size<=F.size)(hn:0<n):(Builtin.clear_ #[S] ty #[.slice (some ⟨blk,off+s,none⟩) n c]).run P W= .ok (.tuple #[]) (W.setCells blk (off+s) (Builtin.zeroCells z.cells n).toList):=by
 have EX:=stores_of_holds P h s (Builtin.zeroCells z.cells n).toList (by rw[sK];exact hs)<|acy h1
 obtain⟨n,rfl⟩:∃m,n=m+1:=⟨n-1,by omega⟩;unfold Builtin.clear_;simp[Df,EY hS,hz,EX,Result.andThen]
theorem aeb[Inhabited<|Fin n]{enc:Fin n->A3 AO}(hk:∀x,(enc x).length=k){i:Nat}(hi:i<dk.size)(x:Fin n):setMany (flatK enc k dk) (i*k) (enc x)=flatK enc k (dk.setIfInBounds i x):=by
 refine ext_get! (by simp) λt ht=>?_
 have ht':t<dk.size*k:=by simpa using ht
 have k0:0<k:=(LK k).elim (λh=>by subst h;simp at ht') id;rw[get_setMany _ _ _ t (by simpa using ht'),get_flatK _ _ _ t ht',get_flatK _ _ _ t (by simpa using ht'),hk];by_cases a:t/k=i
 ·rw[if_pos<|(blk_iff k i t k0).2 a];have m:t-i*k=t%k:=by subst a;rw[Nat.mod_eq_sub_div_mul]
  rw[m,a,JM (dk.setIfInBounds i x) i (by simpa using hi),Array.getElem_setIfInBounds_self]
 ·rw[if_neg<|λh=>a<|(blk_iff k i t k0).1 h];have hd:t/k<dk.size:=Nat.div_lt_of_lt_mul (by rw[Jw];exact ht');rw[JM (dk.setIfInBounds i x) (t/k) (by simpa using hd),JM dk (t/k) hd,Array.getElem_setIfInBounds_ne _<|λe=>a e.symm]
theorem ajy[Inhabited<|Fin n]{enc:Fin n->A3 AO}{w0 W:AK}(h:SWK enc k w0 blk off dk W)(hk:∀x,(enc x).length=k)(hblk:blk<w0.heap.size){i:Nat}(hi:i<dk.size)(x:Fin n):
  SWK enc k w0 blk off (dk.setIfInBounds i x) (W.setCells blk (off+i*k)<|enc x):=by
 obtain⟨m,os,rfl⟩:=h;refine⟨m,os,?_⟩;have hb:i*k+k<=dk.size*k:=by
  have:=Hg k<|show i+1<=dk.size from hi
  rwa [Iv,Ly] at this
 unfold sortWorldK;rw[setCells_grow os blk _ _ _ (by show blk<(putRowK enc k _ blk off dk).heap.size;rw[size_putRowK];exact hblk)]
 congr 1
 unfold putRowK;rw[setCells_putRow _ _ _ _ _ _ (by rw[hk,size_flatK];exact hb),aeb hk hi]
end
end Trn
namespace OU
section
open Go.Shelf Go.Lib Go.Sort
set_option maxHeartbeats 4000000 in
set_option maxRecDepth 1000000 in
theorem afz{P:Program}(F:P.funcs[221]? =some f221)(mixed:P.follows .mixedOrders=true)(t0:P.underlying 0=prog.underlying 0)(t3:P.underlying 3=some (.int .i64))(a3:∀w,(isAgg 3).run P w= .ok false w)(z3:∀w,(Go.sizeOf 3).run P w= .ok 1 w)(v3:∀w,(zeroValue 3).run P w= .ok (.int .i64 0) w)(t4:P.underlying 4=some .bool)(a4:∀w,(isAgg 4).run P w= .ok false w)(z4:∀w,(Go.sizeOf 4).run P w= .ok 1 w)(t114:P.underlying 114=some (.slice 97))(a114:∀w,(isAgg 114).run P w= .ok false w)(z114:∀w,(Go.sizeOf 114).run P w= .ok 1 w)
  {k:Nat}(a97:∀w,(isAgg 97).run P w= .ok true w)(z97:∀w,(Go.sizeOf 97).run P w= .ok k w)(zv:Value)(v97:∀w,(zeroValue 97).run P w= .ok zv w)(hzs:zv.cells.size=k)(hz1:∀v∈zv.cells.toList,v.oneCell'=true){n:Nat}[Inhabited<|Fin n](enc:Fin n->List Value)(hk:∀x,(enc x).length=k)(h1:∀x,∀v∈enc x,v.oneCell'=true)(g:Nat)(cb:Array Value)(kp:Nat->Bool)(k0:kp 0=true)(blk off cap:Nat)(w:World)
  (eg:∀args w,(callFunc g args).run P w= .ok (.enter g args) w)(hH:HoldsK enc k w blk off (Array.ofFn λi:Fin n=>i))(hblk:blk<w.heap.size)(hcap:n<=cap)(hsz:n<=9223372036854775807)
  (hcmp:∀(m:Nat) (os:Array Obj) (dk:Array (Fin n)) (j:Nat) (hj:j+1<n),Calls P g (#[.agg (enc ⟨j+1,hj⟩).toArray,.agg (enc ⟨j,Nat.lt_of_succ_lt hj⟩).toArray]++cb) (sortWorldK enc k w blk off m dk os) λe w'=>e= .returned (.bool<| !kp (j+1))/\∃q os',w'=grow ((sortWorldK enc k w blk off m dk os).drewN q) os'):
  Calls P 221 #[.slice (some ⟨blk,off,none⟩) n cap,.func (.func g) #[] cb] w λe w'=>∃kk dk zs W,e= .returned (.slice (some ⟨blk,off,none⟩) kk cap)/\kk=((List.range n).filter kp).length/\SWK enc k w blk off dk W/\dk.size=n/\(dk.toList.take kk).map (·.val)=(List.range n).filter kp/\w'=W.setCells blk (off+kk*k) zs/\zs.length<=(n-kk)*k:=by
 have kz:∀j,j<1->kp j=true:=λj hj=>by
  obtain rfl:j=0:=by omega
  exact k0
 have hpos:0<n:=Fin.pos default;have hd0:(Array.ofFn λi:Fin n=>i).size=n:=Array.size_ofFn;have S0:Aside (SWK enc k w blk off (Array.ofFn λi:Fin n=>i) w):=SWK.start hH;have RR:Aside (RowK enc k w blk off (Array.ofFn λi:Fin n=>i)):=⟨hk,h1,hH,hblk⟩;have CM:Aside (∀(m:Nat) (os:Array Obj) (dk:Array (Fin n)) (j:Nat) (hj:j+1<n),Calls P g (#[.agg (enc ⟨j+1,hj⟩).toArray,.agg (enc ⟨j,Nat.lt_of_succ_lt hj⟩).toArray]++cb) (sortWorldK enc k w blk off m dk os) λe w'=>e= .returned (.bool<| !kp (j+1))/\∃q os',w'=grow ((sortWorldK enc k w blk off m dk os).drewN q) os'):=hcmp;clear hH hk h1 hcmp;have all:∀W,SWK enc k w blk off (Array.ofFn λi:Fin n=>i) W->(∀j,j<n->kp j=true)->∃kk dk zs W',(Ending.returned<| .slice (some ⟨blk,off,none⟩) n cap)= .returned (.slice (some ⟨blk,off,none⟩) kk cap)/\kk=((List.range n).filter kp).length/\SWK enc k w blk off dk W'/\dk.size=n/\(dk.toList.take kk).map (·.val)=(List.range n).filter kp/\W=W'.setCells blk (off+kk*k) zs/\zs.length<=(n-kk)*k:=λW hW hall=>by
  have e:(List.range n).filter kp=List.range n:=List.filter_eq_self.2 λj hj=>hall j<|List.mem_range.1 hj
  refine⟨n,_,[],W,rfl,by rw[e];simp,hW,hd0,?_,rfl,Nat.zero_le _⟩;rw[e,Array.toList_ofFn];apply List.ext_getElem
  ·simp
  ·intro i h1 h2;simp
 have ALL:Aside (∀W,SWK enc k w blk off (Array.ofFn λi:Fin n=>i) W->(∀j,j<n->kp j=true)->∃kk dk zs W',(Ending.returned<| .slice (some ⟨blk,off,none⟩) n cap)= .returned (.slice (some ⟨blk,off,none⟩) kk cap)/\kk=((List.range n).filter kp).length/\SWK enc k w blk off dk W'/\dk.size=n/\(dk.toList.take kk).map (·.val)=(List.range n).filter kp/\W=W'.setCells blk (off+kk*k) zs/\zs.length<=(n-kk)*k):=all;clear all;by_cases h2:n<2
 ·go_enter F,ntmps221
  go_wp2
  go_ret
  exact ALL.out w S0.out λj hj=>kz j (by omega)
 ·go_enter F,ntmps221
  go_wp2
  go_loopg [5] n (λgg s5 wr=>∃kx:Nat,1<=kx/\kx<=n/\n-kx<=gg/\s5= .int .i64 kx/\Aside (SWK enc k w blk off (Array.ofFn λi:Fin n=>i) wr)/\Aside (∀j,j<kx->kp j=true))
  case atStart=>exact⟨1,Nat.le_refl _,by omega,by omega,by first|rfl|go_num,S0,kz⟩
  case round=>
   clear S0;obtain⟨kx,hk1,hkn,hg,rfl,SW,HA⟩:=hrel;by_cases hlt:kx<n
   ·obtain⟨j,rfl⟩:∃j,kx=j+1:=⟨kx-1,by omega⟩;have jz:(j:Int)+1<(n:Int):=by omega
    have jz1:(j:Int)<(n:Int):=by omega
    have p0:(0:Int)<=(j:Int)+1:=by omega
    have e0:((j:Int)+1).toNat=j+1:=by omega
    have hwp:IntKind.i64.wrap (j:Int)=(j:Int):=by rw[IntKind.wrap_i64];omega
    obtain⟨cx,hcx⟩:∃c,(enc ⟨j+1,hlt⟩).toArray=c:=⟨_,rfl⟩;obtain⟨cy,hcy⟩:∃c,(enc ⟨j,Nat.lt_of_succ_lt hlt⟩).toArray=c:=⟨_,rfl⟩;have lj:∀n' os',Sem.run P (loadCellsFrom ⟨blk,off+(j+1)*k,none⟩ 0 k #[]) (grow (wr.drewN n') os')= .ok cx (grow (wr.drewN n') os'):=λn' os'=>by
     have:=SW.out.ld RR.out (by rw[hd0]) P (j+1) (by rw[hd0];exact hlt) n' os';rw[this,<-hcx,getElem!_pos _ _ (by rw[hd0];exact hlt)];simp
    have lp:∀n' os',Sem.run P (loadCellsFrom ⟨blk,off+j*k,none⟩ 0 k #[]) (grow (wr.drewN n') os')= .ok cy (grow (wr.drewN n') os'):=λn' os'=>by
     have:=SW.out.ld RR.out (by rw[hd0]) P j (by rw[hd0];omega) n' os';rw[this,<-hcy,getElem!_pos _ _ (by rw[hd0];omega)];simp
    have hcg:∀n' os',Calls P g (#[.agg cx,.agg cy]++cb) (grow (wr.drewN n') os') λe w'=>e= .returned (.bool<| !kp (j+1))/\∃q os'',w'=grow ((grow (wr.drewN n') os').drewN q) os'':=λn' os'=>by
     obtain⟨m,os0,hw⟩:=SW.out.grown n' os';rw[hw,<-hcx,<-hcy];exact CM.out m os0 _ j hlt
    cases hkp:kp (j+1) with
    |true=>
     rw[hkp,Bool.not_true] at hcg
     go_wp2_with fail
     go_quiet_grown (first|(go_at_fn g;refine Calls.grown_of<|hcg _ _))
     go_wp2
     go_roundg (n-(j+1+1))
     case measure=>omega
     case rel=>exact⟨j+1+1,by omega,by omega,Nat.le_refl _,by first|rfl|go_num,SW.out.grown nq osq,λi hi=>by
      rcases Nat.lt_or_ge i (j+1) with h|h
      ·exact HA.out i h
      ·have:i=j+1:=by omega
       rw[this];exact hkp⟩
    |false=>
     rw[hkp,Bool.not_false] at hcg
     go_wp2_with fail
     go_quiet_grown (first|(go_at_fn g;refine Calls.grown_of<|hcg _ _))
     have SW1:Aside (SWK enc k w blk off (Array.ofFn λi:Fin n=>i)<|grow (wr.drewN nq) osq):=SW.out.grown nq osq;clear lj lp hcg
     generalize grow (wr.drewN nq) osq=wq at SW1⊢
     go_wp2
     go_loopg [5,7] n (λgg s5 s7 wr=>∃(kk k2:Nat) (dk:Array (Fin n)),s5= .int .i64 kk/\s7= .int .i64 k2/\1<=k2/\j+1+k2<=n/\n-(j+1+k2)<=gg/\Aside (SWK enc k w blk off dk wr)/\Aside (Trn.Na n kp (j+1+k2) kk dk)/\kk<j+1+k2)
     case atStart=>exact⟨j+1,1,_,by first|rfl|go_num,rfl,Nat.le_refl _,by omega,by omega,SW1,Trn.Na.start hlt HA.out hkp,by omega⟩
     case round=>
      clear SW1;obtain⟨kk,k2,dk,rfl,rfl,h21,hle,hg2,SW2,CI,hkk⟩:=hrel;have hdk:dk.size=n:=CI.out.size;by_cases hlt2:j+1+k2<n
      ·obtain⟨i,rfl⟩:∃i,k2=i+1:=⟨k2-1,by omega⟩;have iz:(i:Int)+1<((n-(j+1):Nat):Int):=by omega
       have iz1:(i:Int)<((n-(j+1):Nat):Int):=by omega
       have q0:(0:Int)<=(i:Int)+1:=by omega
       have f0:((i:Int)+1).toNat=i+1:=by omega
       have hwq:IntKind.i64.wrap (i:Int)=(i:Int):=by rw[IntKind.wrap_i64];omega
       have ea:off+(j+1)*k+(i+1)*k=off+(j+1+(i+1))*k:=by rw[Nat.add_assoc,<-Nat.add_mul]
       have eb:off+(j+1)*k+i*k=off+(j+1+i)*k:=by rw[Nat.add_assoc,<-Nat.add_mul]
       have ga:dk[j+1+(i+1)]! =⟨j+1+(i+1),hlt2⟩:=by rw[getElem!_pos dk _ (by omega)];exact CI.out.high _ hlt2 (by omega) _
       have gb:dk[j+1+i]! =⟨j+1+i,Nat.lt_of_succ_lt hlt2⟩:=by rw[getElem!_pos dk _ (by omega)];exact CI.out.high (j+1+i) (Nat.lt_of_succ_lt hlt2) (show j+1+(i+1)-1<=j+1+i by omega) _
       obtain⟨cu,hcu⟩:∃c,enc ⟨j+1+(i+1),hlt2⟩=c:=⟨_,rfl⟩;obtain⟨cv,hcv⟩:∃c,enc ⟨j+1+i,Nat.lt_of_succ_lt hlt2⟩=c:=⟨_,rfl⟩;have lu:∀n' os',Sem.run P (loadCellsFrom ⟨blk,off+(j+1)*k+(i+1)*k,none⟩ 0 k #[]) (grow (wr.drewN n') os')= .ok cu.toArray (grow (wr.drewN n') os'):=λn' os'=>by
        have:=SW2.out.ld RR.out (by rw[hd0];exact hdk) P (j+1+(i+1)) (by omega) n' os';rw[ea,this,ga,hcu]
       have lv:∀n' os',Sem.run P (loadCellsFrom ⟨blk,off+(j+1)*k+i*k,none⟩ 0 k #[]) (grow (wr.drewN n') os')= .ok cv.toArray (grow (wr.drewN n') os'):=λn' os'=>by
        have:=SW2.out.ld RR.out (by rw[hd0];exact hdk) P (j+1+i) (by omega) n' os';rw[eb,this,gb,hcv]
       have hcg:∀n' os',Calls P g (#[.agg cu.toArray,.agg cv.toArray]++cb) (grow (wr.drewN n') os') λe w'=>e= .returned (.bool<| !kp (j+1+(i+1)))/\∃q os'',w'=grow ((grow (wr.drewN n') os').drewN q) os'':=λn' os'=>by
        obtain⟨m,os0,hw⟩:=SW2.out.grown n' os';rw[hw,<-hcu,<-hcv];exact CM.out m os0 dk (j+1+i) hlt2
       have GU:Aside (dk[j+1+(i+1)]! =⟨j+1+(i+1),hlt2⟩/\enc ⟨j+1+(i+1),hlt2⟩=cu):=⟨ga,hcu⟩;clear ea eb ga gb hcu hcv;cases hkq:kp (j+1+(i+1)) with
       |true=>
        rw[hkq,Bool.not_true] at hcg
        go_wp2_with fail
        go_quiet_grown (first|(go_at_fn g;refine Calls.grown_of<|hcg _ _))
        have SW3:Aside (SWK enc k w blk off dk<|grow (wr.drewN nq) osq):=SW2.out.grown nq osq;have l3:=lu nq osq;clear lu lv hcg SW2
        generalize grow (wr.drewN nq) osq=wq at SW3 l3⊢
        have n3:cu.length=k:=by rw[<-GU.out.2];exact RR.out.hk _
        have s3:Sem.run P (storeCells ⟨blk,off+kk*k,none⟩ cu 0) wq= .ok () (wq.setCells blk (off+kk*k) cu):=by
         rw[<-GU.out.2];exact stores_of_holds P (SW3.out.holds RR.out.hblk RR.out.hH (by rw[hdk,hd0])) (kk*k) _ (by rw[RR.out.hk,size_flatK];exact rowK_bnd dk k kk (by omega))<|RR.out.h1 _
        have kz1:(kk:Int)<(n:Int):=by omega
        go_wp2
        go_roundg (n-(j+1+(i+1+1)))
        case measure=>omega
        case rel=>exact⟨kk+1,i+1+1,dk.setIfInBounds kk ⟨j+1+(i+1),hlt2⟩,by first|rfl|go_num,by first|rfl|go_num,by omega,by omega,Nat.le_refl _,by
         show SWK _ _ _ _ _ _ _;rw[<-GU.out.2];exact Trn.ajy SW3.out RR.out.hk RR.out.hblk (by omega) _,CI.out.Dh hlt2 hkq,by omega⟩
       |false=>
        rw[hkq,Bool.not_false] at hcg
        go_wp2_with fail
        go_quiet_grown (first|(go_at_fn g;refine Calls.grown_of<|hcg _ _))
        have SW3:Aside (SWK enc k w blk off dk<|grow (wr.drewN nq) osq):=SW2.out.grown nq osq;clear lu lv hcg SW2
        generalize grow (wr.drewN nq) osq=wq at SW3⊢
        go_wp2
        go_roundg (n-(j+1+(i+1+1)))
        case measure=>omega
        case rel=>exact⟨kk,i+1+1,dk,rfl,by first|rfl|go_num,by omega,by omega,Nat.le_refl _,SW3,CI.out.skip hkq,by omega⟩
      ·have hend:j+1+k2=n:=by omega
       have hcl:∀ty,(Builtin.clear_ #[114] ty #[.slice (some ⟨blk,off+kk*k,none⟩) (n-kk)<|cap-kk]).run P wr= .ok (.tuple #[]) (wr.setCells blk (off+kk*k) (Builtin.zeroCells zv.cells<|n-kk).toList):=λty=>
        Trn.acK t114 v97 hz1 (SW2.out.holds RR.out.hblk RR.out.hH (by rw[hdk,hd0])) (by rw[hzs,size_flatK,hdk,<-Nat.add_mul];exact Nat.mul_le_mul_right k (by omega)) (by omega)
       have kz1:(kk:Int)<=(n:Int):=by omega
       have hzl:(Builtin.zeroCells zv.cells<|n-kk).toList.length<=(n-kk)*k:=by rw[Trn.sK,hzs];exact Nat.le_refl _
       generalize (Builtin.zeroCells zv.cells<|n-kk).toList=zl at hcl hzl
       clear v97 hzs hz1
       go_wp2
       go_ret
       have C:=CI.out;rw[hend] at C;exact⟨kk,dk,zl,wr,rfl,C.len<|Nat.le_refl _,SW2.out,hdk,C.low,rfl,hzl⟩
   ·have:kx=n:=by omega
    subst this
    go_wp2
    go_ret
    exact ALL.out wr SW.out HA.out
set_option maxHeartbeats 4000000 in
set_option maxRecDepth 1000000 in
theorem ag0(p:Option Addr)(m:Nat)(hm:m<2)(cap:Nat)(fv:Value)(w:World):Calls prog 221 #[.slice p m cap,fv] w λe w'=>e= .returned (.slice p m cap)/\w'=w:=by
 go_enter func221,ntmps221
 go_wp2
 go_ret
 exact⟨rfl,rfl⟩
end
end OU
namespace Trn
section
open Go.Shelf Go.Sort
variable[D:DR]
variable{α:Type}{blk:Nat}
def flags{α:Type}(l:A3 α)(bs:A3 Bool):A3 α:=((l.zip bs).filter (·.2)).map (·.1)
theorem uo{α:Type}{e:α->α->A6 Bool}:∀{l:A3 α} {x:α} {r:A3 α},WJ e x l=some r->∃bs:A3 Bool,bs.length=l.length/\(∀j (hj:j<l.length) (h2:j<(x::l).length) (h3:j<bs.length),e l[j] (x::l)[j]=some (!bs[j]))/\r=flags l bs
 |[],x,r,h=>by
  cases h;exact⟨[],rfl,λj hj=>absurd hj<|Nat.not_lt_zero _,rfl⟩
 |y::l,x,r,h=>by
  obtain⟨b,hb,h⟩:=NL h;obtain⟨r',hr,h⟩:=NL h;obtain⟨bs,h1,h2,h3⟩:=uo hr;have h:=Dg h;refine⟨(!b)::bs,by simp[h1],λj hj hj2 hj3=>?_,?_⟩
  ·cases j with
   |zero=>simpa using hb
   |succ j=>exact h2 j (by simpa using hj) (by simp at hj⊢;omega) (by simpa using hj3)
  ·rw[<-h,h3];cases b<;>simp[flags]
theorem uA{α:Type}:∀{l:A3 α} {bs:A3 Bool},bs.length=l.length->((List.range l.length).filter λj=>bs.getD j true).map (λj=>l[j]?)=(flags l bs).map some
 |[],[],_=>rfl
 |[],_::_,h=>by simp at h
 |_::_,[],h=>by simp at h
 |x::l,b::bs,h=>by
  have ih:=uA (l:=l) (bs:=bs) (by simpa using h);rw[DF,List.range_succ_eq_map,Yh,List.filter_map];have e:(λj=>(b::bs).getD j true)∘Nat.succ=λj=>bs.getD j true:=by funext j;simp
  rw[e];have e2:(((List.range l.length).filter λj=>bs.getD j true).map Nat.succ).map (λj=>(x::l)[j]?)=(flags l bs).map some:=by
   rw[<-ih,TR];apply List.map_congr_left;intro j _;simp
  cases b
  ·simpa[flags] using e2
  ·simpa[flags] using e2
theorem ads{l r:A3 α}{c:α×α->A6 Bool}(h:Xt l c=some r):∃kp:Nat->Bool,kp 0=true/\(∀j (hj:j+1<l.length),c (l[j+1],l[j])=some (!kp (j+1)))/\((List.range l.length).filter kp).map (λj=>l[j]?)=r.map some:=by
 cases l with
 |nil=>cases h;exact⟨λ_=>true,rfl,λj hj=>absurd hj<|Nat.not_lt_zero _,rfl⟩
 |cons x l=>
  obtain⟨r',hr,h⟩:=NL h;have h:=Dg h;obtain⟨bs,h1,h2,h3⟩:=uo hr;refine⟨λj=>(true::bs).getD j true,rfl,λj hj=>?_,?_⟩
  ·have hj':j<l.length:=by simpa using hj
   have:=h2 j hj' (by simp;omega) (by omega);simp only[List.getElem_cons_succ,List.getD_cons_succ];rw[Eo,Fe (by omega)];exact this
  ·rw[uA (l:=x::l) (bs:=true::bs) (by simp[h1]),<-h,h3];simp[flags]
theorem abv{W:AK}{o:Nat}{cur:Aw AO}{E:Af}{fr:Nat×Nat}{v:AO}(h:W.heap[blk]? =some (.cells cur E fr)):(W.setCell ⟨blk,o,none⟩ v).heap[blk]? =some (.cells (cur.setIfInBounds o v) E fr):=by
 simp[World.setCell,TZ,h]
theorem rN{blk:Nat}{E:Af}{fr:Nat×Nat}:∀{vs:A3 AO} {W:AK} {o:Nat} {cur:Aw AO},W.heap[blk]? =some (.cells cur E fr)->(W.setCells blk o vs).heap[blk]? =some (.cells (setMany cur o vs) E fr)
 |[],_,_,_,h=>h
 |v::vs,W,o,cur,h=>rN (vs:=vs)<|abv h
theorem tQ{blk:Nat}:∀{vs:A3 AO} {W:AK} {o:Nat},E9 W (W.setCells blk o vs) (some blk)
 |[],W,o=>⟨⟨rfl,rfl,rfl,Az _,λ_ _ _=>rfl⟩,Az _⟩
 |v::vs,W,o=>by
  have h:=tQ (blk:=blk) (vs:=vs) (W:=W.setCell ⟨blk,o,none⟩ v) (o:=o+1);refine⟨⟨h.os,h.tape,h.output,CX (by simp[World.setCell]) h.size,λk hk hne=>?_⟩,h.drawn⟩;have h1:=h.block k (by simpa[World.setCell] using hk) hne;show(World.setCells _ blk (o+1) vs).heap[k]? =_;rw[h1];exact Below.heap_setCell _ _ _ _ (λe=>hne (by rw[e]))
theorem tI{m:Nat}:∀{vs:A3 AO} {F:Aw AO} {s:Nat},m<=s->(setMany F s vs).toList.take m=F.toList.take m
 |[],_,_,_=>rfl
 |v::vs,F,s,h=>by
  rw[setMany,tI (vs:=vs) (by omega),ft,List.take_set_of_le h]
theorem acu[Inhabited α]{enc:α->A3 AO}{k:Nat}{w:AK}{m:Nat}{dk:Aw α}{os:Aw Obj}:E9 w (sortWorldK enc k w blk 0 m dk os) (some blk):=by
 refine⟨⟨rfl,rfl,rfl,je,λi hi hne=>X4 hi (λe=>hne (by rw[e]))⟩,?_⟩;refine GQ.of ?_;show w.drawn<=(sortWorldK _ k w blk 0 m dk os).drawn;unfold sortWorldK Go.Sort.grow Go.Sort.putRowK Go.Sort.putRow Go.Sort.mapBlock Go.Sort.ahead;exact TV _ _
theorem E9.trans{w w1 w2:AK}{row:A6 Nat}(h:E9 w w1 row)(k:E9 w1 w2 row):E9 w w2 row:=
 ⟨⟨k.os.trans h.os,k.tape.trans h.tape,k.output.trans h.output,CX h.size k.size,λi hi hne=>(k.block i (K0 hi h.size) hne).trans<|h.block i hi hne⟩,CX h.drawn k.drawn⟩
end
section
open Go.Shelf Go.Sort
variable[D:DR]
variable{P:Program}{A:Type}{τ:A->Ty}{k:Nat}{c:A×A->Option Bool}{f E:Nat}
theorem aeH(hc:GA P f=true)(hn:∀a,(τ a).n=k)(ha:∀a,(τ a).agg=true)
  (pU:∀(p:A6 Addr) (m:Nat) (hm:m<2) (cap:Nat) (fv:AO) (w:AK),Calls P f #[.slice p m cap,fv] w λe w'=>e= .returned (.slice p m cap)/\w'=w)
  (aod:∀{n:Nat} [Inhabited<|Fin n] (enc:Fin n->A3 AO) (hk:∀x,(enc x).length=k) (h1:∀x,∀v∈enc x,v.oneCell'=true) (g:Nat) (cb:Aw AO) (kp:Nat->Bool) (k0:kp 0=true) (blk off cap:Nat) (w:AK)
   (eg:∀args w,(callFunc g args).run P w= .ok (.enter g args) w) (hH:HoldsK enc k w blk off (Array.ofFn λi:Fin n=>i)) (hblk:blk<w.heap.size) (hcap:n<=cap) (hsz:n<=9223372036854775807)
   (hcmp:∀(m:Nat) (os:Aw Obj) (dk:Aw (Fin n)) (j:Nat) (hj:j+1<n),Calls P g (#[.agg (enc ⟨j+1,hj⟩).toArray,.agg (enc ⟨j,Nat.lt_of_succ_lt hj⟩).toArray]++cb) (sortWorldK enc k w blk off m dk os) λe w'=>e= .returned (.bool<| !kp (j+1))/\∃q os',w'=Go.Sort.grow ((sortWorldK enc k w blk off m dk os).drewN q) os'),
   Calls P f #[.slice (some ⟨blk,off,none⟩) n cap,.func (.func g) #[] cb] w λe w'=>∃kk dk zs W,e= .returned (.slice (some ⟨blk,off,none⟩) kk cap)/\kk=((List.range n).filter kp).length/\SWK enc k w blk off dk W/\dk.size=n/\(dk.toList.take kk).map (·.val)=(List.range n).filter kp/\w'=W.setCells blk (off+kk*k) zs/\zs.length<=(n-kk)*k)
  {l r:A3 A}(hm:Xt l c=some r):gM P f E k (lT τ l) [KS P (λx:A×A=>[τ x.1,τ x.2]) (λx:Bool=>[Ar x]) c] (lT τ r):=by
 obtain⟨kp,hk0,hkp,hkr⟩:=ads hm;refine⟨hc,λw H v xs vs sub gl hown Al hH hvs=>?_⟩;obtain⟨fv,rfl,hfv⟩:=Ns hvs;obtain⟨g,cap,Ei,rfl,QT,hf⟩:=hfv;have hlen:(lT τ l).length=l.length:=Bw ..;rw[hlen] at hown;by_cases hl0:l.length<2
 ·have hr:r=l:=by
   match l,hl0 with
   |[],_=>cases hm;rfl
   |[x],_=>cases hm;rfl
   |a::b::t,h=>simp only[DF] at h;omega
  subst hr;obtain⟨p,EF,rfl⟩:∃p EF,v= .slice p r.length EF:=by
   rcases hown.2 with⟨hv,h0⟩|⟨g,cap,cur,hv,_⟩
   ·exact⟨_,_,by rw[hv,h0]⟩
   ·exact⟨_,_,hv⟩
  refine(pU p r.length hl0 EF _ w).mono ?_;rintro e w' ⟨rfl,rfl⟩;exact⟨_,rfl,⟨⟨rfl,rfl,rfl,Az _,λ_ _ _=>rfl⟩,Az _⟩,xs,by rw[hlen];exact hown,Al,λb hb=>hb⟩
 ·have hpos:0<l.length:=by omega
  obtain⟨blk,EF,cur,rfl,hblk,hnc,hcm,hcs,htake⟩:∃blk EF cur,v= .slice (some ⟨blk,0,.none⟩) l.length EF/\w.heap[blk]? =some (.cells cur E (0,0))/\l.length<=EF/\EF<=maxLen/\cur.size=EF*k/\cur.toList.take (l.length*k)=xs:=by
   rcases hown.2 with⟨_,hz⟩|⟨g,cap,cur,hv,_,r⟩
   ·omega
   ·exact⟨g,cap,cur,hv,r⟩
  haveI:Inhabited (Fin l.length):=⟨⟨0,hpos⟩⟩
  obtain⟨Fx,Jo⟩:=Sw hn ha Al;have hB:H blk= .none:=hH blk rfl;have U3:∀j (hj:j+1<l.length),GA P g=true:=λj hj=>EE.can (D:=DR.strict)<|hf _ _<|hkp j hj
  have main:=aod (λi:Fin l.length=>chunk k xs i) (λi=>RC Fx i.2) (λi u hu=>RJ Al u<|QC<|OA hu) g cap kp hk0 blk 0 EF w
   (λargs w=>Ob (U3 0 (by omega)) args w) (tP Fx hblk htake) (lt_of_heap hblk) hnc (CX hnc hcm)
   (λm os dk j hj=>ale (off:=0) hn ha Al sub gl hB QT hf m os dk ⟨j+1,hj⟩ ⟨j,Nat.lt_of_succ_lt hj⟩<|hkp j hj)
  refine main.mono ?_;rintro e w' ⟨kk,dk,zs,W,rfl,hkk,⟨m,os,rfl⟩,hdk,Tz,rfl,hzs⟩;have hlr:(dk.toList.take kk).map (λi=>l[i])=r:=by
   have h1:((dk.toList.take kk).map λi=>l[i]).map some=r.map some:=by
    rw[<-hkr,<-Tz,TR,TR];apply List.map_congr_left;intro i _;simp
   exact(List.map_inj_right<|λa b h=>Dg h).1 h1
  have JG:kk<=l.length:=by
   rw[hkk];exact CX (TY ..) (by simp)
  have hrk:r.length=kk:=by rw[<-hlr,Bw,DI,EB,hdk];omega
  have Jn:(flatK (λi:Fin l.length=>chunk k xs i) k dk).size=l.length*k:=by rw[size_flatK,hdk]
  have hle:l.length*k<=cur.size:=by rw[hcs];exact Hg k hnc
  have hkm:kk*k<=l.length*k:=Hg k JG;have Gz:=rN (vs:=zs) (o:=0+kk*k)<|rD (enc:=λi:Fin l.length=>chunk k xs i) (k:=k) (m:=m) (dk:=dk) (os:=os) hblk
  have Mh:=so (α:=Fin l.length) (d:=flatK (λi:Fin l.length=>chunk k xs i) k dk) (cur:=cur) (by rw[Jn];exact hle);rw[Jn] at Mh;refine⟨_,rfl,acu.trans tQ,(flatK (λi:Fin l.length=>chunk k xs i) k dk).toList.take<|kk*k,?_,?_,λb hb=>hb⟩
  ·rw[Bw,hrk];refine⟨by rw[DI,EB,Jn];exact Dt hkm,.inr ⟨blk,EF,_,rfl,F2 _,Gz,by omega,hcm,?_,?_⟩⟩
   ·rw[size_setMany,<-hcs];simp[Go.Sort.putCells]
   ·rw[tI (by omega),<-Mh,NA,Dt hkm]
  ·refine bK (by rw[DI,EB,Jn,hrk];exact Dt hkm) λi hi=>?_
   have hi2:i<dk.size:=by omega
   have ec:chunk k ((flatK (λi:Fin l.length=>chunk k xs i) k dk).toList.take<|kk*k) i=chunk k (flatK (λi:Fin l.length=>chunk k xs i) k dk).toList i:=by
    have hb:i*k+k<=kk*k:=by
     have:=Hg k (show i+1<=kk by omega);rwa [Iv,Ly] at this
    unfold chunk;rw[Lz,NA,Dt (by rw[Nat.le_sub_iff_add_le (by omega)];omega)]
   rw[ec,lO (λi=>RC Fx i.2) hi2,JM dk i hi2];have e:r[i]=l[dk[i]]:=by
    have:r[i]? =((dk.toList.take kk).map λi=>l[i])[i]? :=by rw[hlr]
    rw[Fe hi,GX,QA,if_pos (by omega),MY,Vf hi2] at this;simpa using this
   rw[e];exact Jo _ dk[i].2
end
section
variable{l:A3 Int}{n:Nat}{x y:Int}{s:Nat}{q:Int}{ρ:Type}{R:ρ->Prop}{a:A3 Int}{r:Int}{b:A3 Int}{y1 y0 N d:Int}{α:Type}{m k:Nat}{K:α->A6 ρ}{X Y u0 v0 v1 P UL VL U2:Int}
def Yd{ρ:Type}(R:ρ->Prop)(o:A6 ρ):Prop:=∃r,o=some r/\R r
def Yd.mk{x:ρ}(h:R x):Yd R (some x):=⟨x,rfl,h⟩
def Yd.bd{α ρ:Type}{R:ρ->Prop}{e:A6 α}{K:α->A6 ρ}{x:α}(h:e=some x)(k:Yd R (K x)):Yd R (Trn.bd e K):=by subst h;exact k
def Yd.Ak{S:α->Prop}{e:A6 α}(h:Yd S e)(k:∀x,S x->Yd R (K x)):Yd R (Trn.bd e K):=by
 obtain⟨x,rfl,hx⟩:=h;exact k x hx
def Yd.cond{ρ:Type}{R:ρ->Prop}{b:Bool}{x y:A6 ρ}(hx:b=true->Yd R x)(hy:b=false->Yd R y):Yd R (cond b x y):=by
 cases b
 ·exact hy rfl
 ·exact hx rfl
def Yd.gC{ρ:Type}{R:ρ->Prop}{b:Bool}{x:A6 ρ}(hb:b=true)(hx:Yd R x):Yd R (Trn.gC b x):=by subst hb;exact hx
def Yd.Aa{α ρ:Type}{R:ρ->Prop}{g:Bool}{d:α}{e:A6 α}{K:α->A6 ρ}(h1:g=true->∃x,e=some x/\Yd R (K x))(h2:g=false->Yd R (K d)):Yd R (Trn.Aa g d e K):=by
 cases g
 ·exact h2 rfl
 ·obtain⟨x,rfl,h⟩:=h1 rfl;exact h
def Yd.jn{α ρ:Type}{R:ρ->Prop}(I:α->Prop){K:α->A6 ρ}{E:(α->A6 ρ)->A6 ρ}(hK:∀s,I s->Yd R (K s))(hE:∀k,(∀s,I s->Yd R (k s))->Yd R (E k)):Yd R (Trn.jn K E):=hE K hK
def Yd.lp{σ ρ:Type}{R:ρ->Prop}{B:(σ->A6 ρ)->σ->A6 ρ}(I:σ->Prop)(μ:σ->Nat)(h:∀next s,I s->(∀s',I s'->μ s'<μ s->Yd R (next s'))->Yd R (B next s)):∀(F:Nat) (s:σ),I s->μ s<F->Yd R (Trn.lp F B s)
 |0,s,_,h=>by omega
 |F+1,s,hi,hm=>h _ s hi λs' hi' Jl=>Yd.lp I μ h F s' hi' (by omega)
def Yd.imp{S:ρ->Prop}{o:A6 ρ}(h:Yd R o)(k:∀r,R r->S r):Yd S o:=by
 obtain⟨r,e,hr⟩:=h;exact⟨r,e,k r hr⟩
def Ad{n:Int}(h:DB n):AE n=some n:=by
 unfold DB at h;unfold AE Hm;rw[Ab h.1,Ab h.2]
 rfl
def Tc{i:Int}(h0:0<=i)(h1:i<l.length):A8 l i=some (l.getD i.toNat 0):=by
 obtain⟨n,rfl⟩:=ER h0;have h:n<l.length:=by omega
 show l[n]? =_;simp[h]
def BN(h:n<l.length):A8 l (n:Int)=some (l.getD n 0):=by
 show l[n]? =_;simp[h]
def PO{b:Nat}{n:Int}{z:α}(h0:0<=n)(h1:b*n<=140737488355328)(hb:1<=b):Ld b n z=some (List.replicate n.toNat z):=by
 obtain⟨m,rfl⟩:=ER h0;have h2:(m:Int)<=(b:Int)*m:=by
  have:m*1<=m*b:=Va _ hb;have:m<=b*m:=by rw[Jw b m];omega
  exact_mod_cast this
 unfold Ld;rw[Ab h0,Ab (show((m:Int)<=9223372036854775807) by omega),Ab h1]
 rfl
def EO{l:A3 α}{lo hi:Int}(h0:0<=lo)(h1:lo<=hi)(h2:hi<=l.length):Br l lo hi=some ((l.take hi.toNat).drop lo.toNat):=by
 unfold Br;rw[Ab h0,Ab h1,Ab h2]
 rfl
def am6{k:IntKind}(h:0<=y):ME k x y=some (x.fdiv<|2^(min y.toNat k.bits)):=by
 unfold ME;rw[BH (by omega)]
 rfl
def am7{k:IntKind}(h:0<=y):MF k x y=some (k.wrap<|x*2^(min y.toNat k.bits)):=by
 unfold MF;rw[BH (by omega)]
 rfl
abbrev BB:Int:=18446744073709551616
def Am(n:Nat):Int:=BB^n
def Y1:Am 0=1:=rfl
def Iu(n:Nat):Am (n+1)=BB*Am n:=by unfold Am;rw[Int.pow_succ,D8]
def L7:∀n,0<Am n
 |0=>by rw[Y1];omega
 |n+1=>by rw[Iu];have:=L7 n;unfold BB;omega
def eQ(m n:Nat):Am (m+n)=Am m*Am n:=by unfold Am;rw[Int.pow_add]
def Mw(x:Int)(l:A3 Int):AH (x::l)=x+BB*AH l:=rfl
def Ui:∀(l m:A3 Int),AH (l++m)=AH l+Am l.length*AH m
 |[],m=>by simp[AH,Y1]
 |x::l,m=>by
  rw[Q9,Mw,Mw,Ui l m,DF,Iu,BZ,DO];omega
def YN:okW []:=by intro x h;cases h
def Ou:okW (x::l)↔(0<=x/\x<BB)/\okW l:=by
 unfold okW;simp only[Ag,forall_eq_or_imp]
def uW{m:A3 Int}:okW (l++m)↔okW l/\okW m:=by
 unfold okW;constructor
 ·exact λh=>⟨λx hx=>h x<|G3 _ hx,λx hx=>h x<|PA _ hx⟩
 ·rintro⟨h1,h2⟩ x hx;rcases BR.1 hx with h|h
  ·exact h1 x h
  ·exact h2 x h
def Lt(h:okW l)(n:Nat):okW (l.take n):=λx hx=>h x<|OA hx
def RI(h:okW l)(n:Nat):okW (l.drop n):=λx hx=>h x<|QC hx
def FI(h:okW l)(n:Nat):0<=l.getD n 0/\l.getD n 0<BB:=by
 by_cases hn:n<l.length
 ·have:l.getD n 0=l[n]:=by simp[Eo,hn]
  rw[this];exact h _<|Kg hn
 ·have:l.getD n 0=0:=by simp[Eo,hn]
  rw[this];unfold BB;omega
def UY(n:Nat):okW (List.replicate n 0):=λx hx=>by
 rw[(List.mem_replicate.1 hx).2];omega
def Ju(h:okW l)(n:Nat)(hx:0<=x/\x<BB):okW (l.set n x):=λy hy=>by
 rcases List.mem_or_eq_of_mem_set hy with h'|h'
 ·exact h y h'
 ·subst h';exact hx
def jq:∀n,AH (List.replicate n 0)=0
 |0=>rfl
 |n+1=>by rw[List.replicate_succ,Mw,jq n];omega
def G0:∀{l:A3 Int},okW l->0<=AH l/\AH l<Am l.length
 |[],_=>by simp[AH,Y1]
 |x::l,h=>by
  rw[Ou] at h;obtain⟨h1,h2⟩:=G0 h.2;rw[Mw,DF,Iu];have:=h.1;unfold BB at*;omega
def an(h:n<l.length):l.take (n+1)=l.take n++[l.getD n 0]:=by
 rw[fO]
 congr 1
 simp[Eo,h]
def X6(h:n<l.length):AH (l.take<|n+1)=AH (l.take n)+Am n*l.getD n 0:=by
 rw[an h,Ui,DI,Dt (by omega)];simp[AH]
def R3(l:A3 Int)(n:Nat)(h:n<=l.length):AH l=AH (l.take n)+Am n*AH (l.drop n):=by
 conv=>lhs;rw[<-OC n l]
 rw[Ui,DI,Dt h]
def Sx:∀{l:A3 Int},okW l->l≠[]->l.getLast?≠some 0->Am (l.length-1)<=AH l
 |[],_,h,_=>absurd rfl h
 |[x],h,_,hl=>by
  rw[Ou] at h;have:x≠0:=λe=>hl (by rw[e];rfl)
  simp[AH,Y1];omega
 |x::y::l,h,_,hl=>by
  rw[Ou] at h;have:=Sx (l:=y::l) h.2 (by simp) (by simpa using hl);rw[Mw,show(x::y::l).length-1=(y::l).length-1+1 from by simp,Iu];have:=h.1;unfold BB at*;omega
def agb(h:n<l.length)(x:Int):l.set n x=l.take n++x::l.drop (n+1):=by
 rw[List.set_eq_take_append_cons_drop,if_pos h]
def Gd(h:n<=m)(x:Int):(l.set m x).take n=l.take n:=by
 rw[List.take_set_of_le h]
def getD_set_ne(h:n≠m)(x:Int):(l.set m x).getD n 0=l.getD n 0:=by
 simp[Eo,Vc<|Ne.symm h]
def Ge(h:n<l.length)(x:Int):(l.set n x).getD n 0=x:=by
 simp[Eo,h]
def Norm(w:A3 Int):Prop:=okW w/\w.getLast?≠some 0
def Norm.nil:Norm []:=⟨YN,by simp⟩
def Norm.len{w:A3 Int}(h:Norm w)(hv:AH w<Am n):w.length<=n:=by
 by_cases h0:w=[]
 ·subst h0;simp
 ·have h1:=Sx h.1 h0 h.2;rcases Gh n w.length with h2|h2
  ·have:Am n<=Am (w.length-1):=by
    obtain⟨k,hk⟩:∃k,w.length-1=n+k:=⟨w.length-1-n,by omega⟩;rw[hk,eQ];have a:=L7 n;have b:=L7 k;have:Am n*1<=Am n*Am k:=ET (by omega) (by omega);omega
   omega
  ·exact h2
def DQ{a b:Bool}(h:(a&&b)=true):a=true/\b=true:=by
 rw[BU] at h;exact h
def RL(ha:okW a)(hl:a.length<4611686018427387904):Yd (λw=>Norm w/\AH w=AH a/\w.length<=a.length) (Ni a):=by
 unfold Ni;refine Yd.lp (λs:Int=>0<=s/\s<=a.length/\AH (a.take s.toNat)=AH a) (λs:Int=>s.toNat) ?_ _ _ ⟨by omega,by omega,by simp⟩ (by simp;omega);rintro next s ⟨h0,h1,h2⟩ hn
 refine Yd.Aa (λhg=>?_)<|λhg=>?_
 ·have hs:0<s:=AZ hg;refine⟨s-1,Ad ⟨by omega,by omega⟩,Yd.Aa (λ_=>⟨a.getD (s-1).toNat 0,Tc (by omega) (by omega),Yd.cond (λhc=>?_)<|λhc=>?_⟩) (λh=>by rw[hg] at h;cases h)⟩
  ·obtain⟨_,hz⟩:=DQ hc;have hz:=AZ hz;refine Yd.bd (Ad ⟨by omega,by omega⟩) (hn _ ⟨by omega,by omega,?_⟩ (by omega));have e:s.toNat=(s-1).toNat+1:=by omega
   rw[e,X6 (by omega),hz,Ra,VH] at h2;exact h2
  ·refine Yd.bd (EO (by omega) h0 h1) (Yd.mk ⟨⟨Lt ha _,?_⟩,h2,by simp;omega⟩);rw[Ab hs,JO] at hc;have hz:=Ay hc;have e:s.toNat=(s-1).toNat+1:=by omega
   show(a.take s.toNat).getLast?≠some 0;rw[e,an (by omega)];simpa using hz
 ·have hs: ¬0<s:=Ay hg;have hs:s=0:=by omega
  subst hs;refine Yd.Aa (λh=>by rw[hg] at h;cases h) (λ_=>Yd.cond (λhc=>by simp at hc) (λ_=>Yd.bd (EO (by omega) (by omega) h1) (Yd.mk ⟨by simpa using Norm.nil,by simpa using h2,by simp⟩)))
def ae8(ha:okW a)(hb:okW b)(hla:a.length<4398046511104)(hlb:b.length<4398046511104):Yd (λw=>Norm w/\AH w=AH a+AH b) (XB a b):=by
 unfold XB;refine Yd.jn (λs:A3 Int×A3 Int=>okW s.1/\okW s.2/\s.2.length<=s.1.length/\s.1.length<4398046511104/\AH s.1+AH s.2=AH a+AH b) ?_ λk hk=>Yd.cond (λhc=>?_)<|λhc=>?_
 rotate_left
 ·have hc:=AZ hc;exact hk (b,a) ⟨hb,ha,by dsimp only;omega,hlb,by dsimp only;omega⟩
 ·have hc:=Ay hc;exact hk (a,b) ⟨ha,hb,by dsimp only;omega,hla,rfl⟩
 rintro⟨x,y⟩ ⟨hx,hy,hl,hlx,hv⟩;simp only at hx hy hl hlx hv⊢;rw[<-hv];refine Yd.bd (Ad ⟨by omega,by omega⟩) (Yd.bd (PO (by omega) (by omega) (by omega)) ?_);refine Yd.lp (λs:A3 Int×Int×Int=>okW s.1/\s.1.length=x.length+1/\(s.2.1=0\/s.2.1=1)/\0<=s.2.2/\s.2.2<=x.length/\AH (s.1.take s.2.2.toNat)+Am s.2.2.toNat*s.2.1=AH (x.take s.2.2.toNat)+AH (y.take s.2.2.toNat))
  (λs:A3 Int×Int×Int=>x.length-s.2.2.toNat) ?_ _ _ ⟨UY _,by simp only[NJ];omega,.inl rfl,by dsimp only;omega,by dsimp only;omega,by simp[AH]⟩ (by dsimp only;omega)
 rintro next ⟨o,c,i⟩ ⟨h1,h2,h3,h4,h5,h6⟩ hn
 simp only at h1 h2 h3 h4 h5 h6 hn⊢;obtain⟨n,rfl⟩:=ER h4;simp only[CA,M7] at*;refine Yd.cond (λhc=>?_)<|λhc=>?_
 ·have hc:=AZ hc;refine Yd.jn (λv=>v=y.getD n 0) ?_ λk hk=>Yd.cond (λhd=>?_)<|λhd=>?_
  ·rintro v rfl;obtain⟨p1,p2⟩:=FI hx n;obtain⟨q1,q2⟩:=FI hy n;refine Yd.bd (Tc (by omega) (by omega)) ?_;simp only[CA]
   generalize hX:x.getD n 0=X at*
   generalize hY:y.getD n 0=Y at*
   have Zi:LA X Y c=some ((X+Y+c)%BB,(X+Y+c)/BB):=by
    unfold LA GY;rw[Ab p1,Ab p2,Ab q1,Ab q2];rcases h3 with rfl|rfl<;>rfl
   refine Yd.bd Zi (Yd.bd (Tc (by omega) (by omega)) (Yd.bd (Tc (by omega) (by omega)) (Yd.bd (Ad ⟨by omega,by omega⟩) ?_)));have hdm:=OB (X+Y+c) BB;have KJ:0<=(X+Y+c)%BB:=LI _ (by unfold BB;omega);have hr1:(X+Y+c)%BB<BB:=Kj _ (by unfold BB;omega);have hq:(X+Y+c)/BB=0\/(X+Y+c)/BB=1:=by unfold BB at*;rcases h3 with rfl|rfl<;>omega
   refine hn _ ⟨Ju h1 _ ⟨KJ,hr1⟩,by simpa using h2,hq,by dsimp only;omega,by dsimp only;omega,?_⟩ (by dsimp only;omega);have e:(((n:Nat):Int)+1).toNat=n+1:=by omega
   simp only[e,CA];rw[X6 (by simpa using by omega),Gd<|Az _,Ge (by omega),X6 (by omega),hX,Iu];have hy':AH (y.take<|n+1)=AH (y.take n)+Am n*Y:=by
    rcases Gh n y.length with h|h
    ·rw[X6 h,hY]
    ·have:Y=0:=by rw[<-hY];simp[Eo,h]
     rw[this,CB (by omega),CB h];omega
   rw[hy'];have key:Am n*((X+Y+c)%BB)+BB*Am n*((X+Y+c)/BB)=Am n*(X+Y+c):=by
    conv=>rhs;rw[<-hdm]
    rw[BZ,D8 BB<|Am n,DO]
   have k2:Am n*(X+Y+c)=Am n*X+Am n*Y+Am n*c:=by rw[BZ,BZ]
   omega
  ·have hd:=AZ hd;exact Yd.bd (Tc (by omega) hd) (hk _ (by simp))
  ·have hd:=Ay hd;exact hk _ (by simp[Eo];rw[Vd (by omega)];rfl)
 ·have hc:=Ay hc;have Gc:n=x.length:=by omega
  subst Gc;refine Yd.bd (Tc (by omega) (by omega)) (Yd.bd (Tc (by omega) (by omega)) ?_);have Dl:0<=c/\c<BB:=by unfold BB;omega
  refine Yd.Ak (RL (Ju h1 x.length Dl) (by simp;omega)) λw ⟨w1,w2,_⟩=>Yd.mk ⟨w1,?_⟩
  have e1:=R3 (o.set x.length c) x.length (by rw[JP];omega);have e2:(o.set x.length c).drop x.length=[c]:=by
   rw[agb (by omega),Nw,MZ (by rw[DI];omega)];have:(o.drop<|x.length+1)=[]:=MZ (by omega);rw[this,DI,Dt (by omega)];simp
  rw[e2,Gd<|Az _] at e1;rw[CB (l:=x) (by omega),CB (l:=y) (by omega)] at h6;rw[show AH [c]=c from by simp[AH]] at e1;omega
def xe(h:n<l.length):AH l=AH (l.take n)+Am n*(l.getD n 0+BB*AH (l.drop<|n+1)):=by
 rw[R3 l n (by omega)]
 congr 2
 rw[Rq h,Mw]
 congr 1
 simp[Eo,h]
def dc(h:m<=n):Am m<=Am n:=by
 obtain⟨k,rfl⟩:∃k,n=m+k:=⟨n-m,by omega⟩;rw[eQ];have a:=L7 m;have b:=L7 k;have:Am m*1<=Am m*Am k:=ET (by omega) (by omega);omega
def Xg(ha:okW a)(hb:Norm b)(h:a.length<b.length):AH a<AH b:=by
 have h1:=(G0 ha).2;have h2:=Sx hb.1 (by intro e;subst e;simp at h) hb.2;have h3:=dc (show a.length<=b.length-1 by omega);omega
def rV(ha:Norm a)(hb:Norm b)(hla:a.length<4398046511104)(hlb:b.length<4398046511104):
  Yd (λr=>(r= -1/\AH a<AH b)\/(r=0/\AH a=AH b)\/(r=1/\AH b<AH a)) (Wp a b):=by
 unfold Wp;refine Yd.cond (λhc=>Yd.cond (λhd=>?_)<|λhd=>?_)<|λhc=>?_
 ·have hd:=AZ hd;exact Yd.mk (.inl ⟨rfl,Xg ha.1 hb (by omega)⟩)
 ·have hd:=Ay hd;rw[F6,HB] at hc;exact Yd.mk (.inr (.inr ⟨rfl,Xg hb.1 ha (by omega)⟩))
 ·rw[VZ,Ev] at hc;have hl:a.length=b.length:=by omega
  refine Yd.bd (Ad ⟨by omega,by omega⟩) ?_;refine Yd.lp (λs:Int=> -1<=s/\s<a.length/\a.drop (s+1).toNat=b.drop (s+1).toNat) (λs:Int=>(s+1).toNat) ?_ _ _ ⟨by omega,by omega,?_⟩ (by omega)
  ·rintro next s ⟨h0,h1,h2⟩ hn
   refine Yd.cond (λhp=>?_)<|λhp=>?_
   ·have hp:=AZ hp;obtain⟨n,rfl⟩:=ER hp;have en:(((n:Nat):Int)+1).toNat=n+1:=by omega
    rw[en] at h2;refine Yd.bd (BN (by omega)) (Yd.bd (BN (by omega)) ?_);have eA:=xe (l:=a) (n:=n) (by omega);have eB:=xe (l:=b) (n:=n) (by omega);rw[h2] at eA;obtain⟨tA0,tA⟩:=G0<|Lt ha.1 n
    obtain⟨tB0,tB⟩:=G0<|Lt hb.1 n
    rw[DI,Dt (by omega)] at tA tB;have hpw:=L7 n;have gA:A8 a (n:Int)=some (a.getD n 0):=BN (by omega);have gB:A8 b (n:Int)=some (b.getD n 0):=BN (by omega);have dA:a.drop n=a.getD n 0::a.drop (n+1):=by
     rw[Rq (show n<a.length by omega)]
     congr 1
     simp[Eo,show n<a.length by omega]
    have dB:b.drop n=b.getD n 0::b.drop (n+1):=by
     rw[Rq (show n<b.length by omega)]
     congr 1
     simp[Eo,show n<b.length by omega]
    generalize a.getD n 0=X at*
    generalize b.getD n 0=Y at*
    have eA':AH a=AH (a.take n)+Am n*X+Am n*(BB*AH (b.drop<|n+1)):=by rw[eA,BZ];omega
    have eB':AH b=AH (b.take n)+Am n*Y+Am n*(BB*AH (b.drop<|n+1)):=by rw[eB,BZ];omega
    refine Yd.cond (λhx=>?_)<|λhx=>?_
    ·rw[F6,HB] at hx;refine Yd.bd gA<|Yd.bd gB<|Yd.cond (λhlt=>?_)<|λhlt=>?_
     ·have hlt:=AZ hlt;have:Am n*(X+1)<=Am n*Y:=ET (by omega) (by omega);rw[BZ,Jv] at this;exact Yd.mk (.inl ⟨rfl,by omega⟩)
     ·have hlt:=Ay hlt;have:Am n*(Y+1)<=Am n*X:=ET (by omega) (by omega);rw[BZ,Jv] at this;exact Yd.mk (.inr (.inr ⟨rfl,by omega⟩))
    ·rw[VZ,Ev] at hx;refine Yd.bd (Ad ⟨by omega,by omega⟩) (hn _ ⟨by omega,by omega,?_⟩ (by omega));have:(((n:Nat):Int)-1+1).toNat=n:=by omega
     rw[this,dA,dB,hx,h2]
   ·have hp:=Ay hp;have:s= -1:=by omega
    subst this;exact Yd.mk (.inr (.inl ⟨rfl,by simpa using congrArg AH h2⟩))
  ·have:((a.length:Int)-1+1).toNat=a.length:=by omega
   rw[this,Ri,hl,Ri]
def nV{c:Int}(hx:0<=X/\X<BB)(hy:0<=Y/\Y<BB)(hc:c=0\/c=1):∃r d:Int,RX X Y c=some (r,d)/\0<=r/\r<BB/\(d=0\/d=1)/\X-Y-c=r-BB*d:=by
 have h:RX X Y c=some ((X-Y-c)%Ft,bif decide (X<Y+c) then 1 else 0):=by
  unfold RX GY;rw[Ab hx.1,Ab hx.2,Ab hy.1,Ab hy.2];rcases hc with rfl|rfl<;>rfl
 refine⟨_,_,h,LI _ (by unfold Ft;omega),Kj _ (by unfold Ft;omega),?_,?_⟩
 ·cases decide (X<Y+c)<;>simp
 ·unfold Ft BB at*;by_cases h:X<Y+c
  ·rw[Ab h];simp only[BM];omega
  ·rw[BH h];simp only[B8];omega
def Vq{c:Int}(hx:0<=X/\X<BB)(hy:0<=Y/\Y<BB)(hc:c=0\/c=1):∃r d:Int,LA X Y c=some (r,d)/\0<=r/\r<BB/\(d=0\/d=1)/\X+Y+c=r+BB*d:=by
 have h:LA X Y c=some ((X+Y+c)%Ft,(X+Y+c)/Ft):=by
  unfold LA GY;rw[Ab hx.1,Ab hx.2,Ab hy.1,Ab hy.2];rcases hc with rfl|rfl<;>rfl
 refine⟨_,_,h,LI _ (by unfold Ft;omega),Kj _ (by unfold Ft;omega),?_,?_⟩
 ·unfold Ft BB at*;omega
 ·have:=OB (X+Y+c) Ft;unfold Ft BB at*;omega
def fD(hx:0<=X/\X<BB)(hy:0<=Y/\Y<BB):∃hi lo:Int,Q4 X Y=some (hi,lo)/\0<=hi/\hi<=BB-2/\0<=lo/\lo<BB/\X*Y=lo+BB*hi:=by
 have h:Q4 X Y=some (X*Y/Ft,X*Y%Ft):=by
  unfold Q4 GY;rw[Ab hx.1,Ab hx.2,Ab hy.1,Ab hy.2]
  rfl
 have h1:=OB (X*Y) Ft;have h2:0<=X*Y:=Kd hx.1 hy.1;have h3:X*Y<=(BB-1)*(BB-1):=P3 (by omega) (by omega) hy.1 (by unfold BB;omega);have h4:0<=X*Y%Ft:=LI _ (by unfold Ft;omega);have h5:X*Y%Ft<Ft:=Kj _ (by unfold Ft;omega);refine⟨_,_,h,?_,?_,h4,h5,?_⟩
 ·exact Ke h2 (by unfold Ft;omega)
 ·generalize X*Y/Ft=q at*
  generalize X*Y%Ft=r at*
  generalize X*Y=p at*
  unfold Ft BB at*;omega
 ·unfold Ft BB at*;omega
def Rr(h:l.length<=n):l.getD n 0=0:=by simp[Eo,h]
def En(l:A3 Int)(n:Nat):AH (l.take<|n+1)=AH (l.take n)+Am n*l.getD n 0:=by
 rcases Gh n l.length with h|h
 ·exact X6 h
 ·rw[Rr h,CB (by omega),CB h];omega
def tN(ha:okW a)(hb:okW b)(hl:b.length<=a.length)(hla:a.length<4398046511104)(hv:AH b<=AH a):Yd (λw=>Norm w/\AH w=AH a-AH b) (XA a b):=by
 unfold XA;refine Yd.bd (PO (by omega) (by omega) (by omega)) ?_;refine Yd.lp (λs:A3 Int×Int×Int=>okW s.1/\s.1.length=a.length/\(s.2.1=0\/s.2.1=1)/\0<=s.2.2/\s.2.2<=a.length/\AH (s.1.take s.2.2.toNat)=AH (a.take s.2.2.toNat)-AH (b.take s.2.2.toNat)+Am s.2.2.toNat*s.2.1)
  (λs:A3 Int×Int×Int=>a.length-s.2.2.toNat) ?_ _ _ ⟨UY _,by simp only[NJ];omega,.inl rfl,by dsimp only;omega,by dsimp only;omega,by simp[AH]⟩ (by dsimp only;omega)
 rintro next ⟨o,c,i⟩ ⟨h1,h2,h3,h4,h5,h6⟩ hn
 simp only at h1 h2 h3 h4 h5 h6 hn⊢;obtain⟨n,rfl⟩:=ER h4;simp only[CA,M7] at*;refine Yd.cond (λhc=>?_)<|λhc=>?_
 ·have hc:=AZ hc;refine Yd.jn (λv=>v=b.getD n 0) ?_ λk hk=>Yd.cond (λhd=>?_)<|λhd=>?_
  ·rintro v rfl;obtain⟨r,d,e1,e2,e3,e4,e5⟩:=nV (FI ha n) (FI hb n) h3;refine Yd.bd (BN (by omega)) (Yd.bd e1 (Yd.bd (BN (by omega)) (Yd.bd (BN (by omega)) (Yd.bd (Ad ⟨by omega,by omega⟩) ?_))));refine hn _ ⟨Ju h1 _ ⟨e2,e3⟩,by simpa using h2,e4,by dsimp only;omega,by dsimp only;omega,?_⟩ (by dsimp only;omega);have e:(((n:Nat):Int)+1).toNat=n+1:=by omega
   simp only[e,CA];rw[En,Gd<|Az _,Ge (by omega),En a,En b,Iu]
   generalize a.getD n 0=X at*
   generalize b.getD n 0=Y at*
   have key:Am n*(X-Y-c)=Am n*r-BB*Am n*d:=by rw[e5,He,<-DO,D8 (Am n) BB]
   have k2:Am n*(X-Y-c)=Am n*X-Am n*Y-Am n*c:=by rw[He,He]
   omega
  ·have hd:=AZ hd;exact Yd.bd (BN (by omega))<|hk _ rfl
  ·have hd:=Ay hd;exact hk _ (by rw[Rr (by omega)])
 ·have hc:=Ay hc;have Gc:n=a.length:=by omega
  subst Gc;refine Yd.Ak (RL h1 (by omega)) λw ⟨w1,w2,_⟩=>Yd.mk ⟨w1,?_⟩
  rw[w2];rw[CB (l:=o) (by omega),CB (l:=a) (by omega),CB (l:=b) (by omega)] at h6;have B2:=(G0 h1).2;rw[h2] at B2;have hp:=L7 a.length;rcases h3 with rfl|rfl
  ·omega
  ·omega
def acp(h:AH (l.drop n)=0)(hk:okW l)(hm:n<=m):l.getD m 0=0:=by
 have key:∀(l:A3 Int) (j:Nat),okW l->AH l=0->l.getD j 0=0:=by
  intro l
  induction l with
  |nil=>intro j _ _;simp
  |cons x l ih=>
   intro j hk hv;rw[Ou] at hk;rw[Mw] at hv;have h1:=(G0 hk.2).1;have hx:=hk.1;unfold BB at*;cases j with
   |zero=>simp;omega
   |succ j=>simpa using ih j hk.2 (by omega)
 have:=key (l.drop n) (m-n) (RI hk n) h;simpa[Eo,P8,show n+(m-n)=m by omega] using this
def ae7(ha:okW a)(hb:okW b)(hla:a.length<2199023255552)(hlb:b.length<2199023255552):Yd (λw=>Norm w/\AH w=AH a*AH b) (az a b):=by
 unfold az;refine Yd.bd (Ad ⟨by omega,by omega⟩) (Yd.bd (PO (by omega) (by omega) (by omega)) ?_);refine Yd.lp (λs:A3 Int×Int=>okW s.1/\s.1.length=a.length+b.length/\0<=s.2/\s.2<=a.length/\AH (s.1.take<|s.2.toNat+b.length)=AH (a.take s.2.toNat)*AH b)
  (λs:A3 Int×Int=>a.length-s.2.toNat) ?_ _ _ ⟨UY _,by simp only[NJ];omega,by dsimp only;omega,by dsimp only;omega,?_⟩ (by dsimp only;omega)
 rotate_left
 ·dsimp only;rw[Yl,jq];simp[AH]
 rintro next ⟨o,i⟩ ⟨h1,h2,h3,h4,h5⟩ hn
 simp only at h1 h2 h3 h4 h5 hn⊢;obtain⟨n,rfl⟩:=ER h3;simp only[CA,M7] at*;refine Yd.cond (λhc=>?_)<|λhc=>?_
 ·have hc:=AZ hc;refine Yd.bd (BN (by omega)) ?_;refine Yd.lp (λs:A3 Int×Int×Int=>okW s.1/\s.1.length=a.length+b.length/\(0<=s.2.1/\s.2.1<BB)/\0<=s.2.2/\s.2.2<=b.length/\s.1.drop (n+s.2.2.toNat)=o.drop (n+s.2.2.toNat)/\
    AH (s.1.take<|n+s.2.2.toNat)+Am (n+s.2.2.toNat)*s.2.1=AH (o.take<|n+s.2.2.toNat)+Am n*(a.getD n 0*AH (b.take s.2.2.toNat)))
   (λs:A3 Int×Int×Int=>b.length-s.2.2.toNat) ?_ _ _ ⟨h1,h2,⟨by dsimp only;omega,by dsimp only;unfold BB;omega⟩,by dsimp only;omega,by dsimp only;omega,rfl,by simp[AH]⟩ (by dsimp only;omega)
  rintro FN ⟨p,c,j⟩ ⟨g1,g2,g3,g4,g5,g6,g7⟩ Io;simp only at g1 g2 g3 g4 g5 g6 g7 Io⊢;obtain⟨m,rfl⟩:=ER g4;simp only[CA,M7] at*;have eo:p.getD (n+m) 0=o.getD (n+m) 0:=by
   have:=congrArg (λl=>l.getD 0 0) g6;simpa[Eo,P8] using this
  refine Yd.cond (λhd=>?_)<|λhd=>?_
  ·have hd:=AZ hd;obtain⟨hi,lo,m1,m2,m3,m4,m5,m6⟩:=fD (FI ha n)<|FI hb m
   obtain⟨r1,d1,a1,a2,a3,a4,a5⟩:=Vq (X:=lo) (Y:=p.getD (n+m) 0) (c:=0) ⟨m4,m5⟩ (FI g1 _)<| .inl rfl
   obtain⟨r2,d2,b1,b2,b3,b4,b5⟩:=Vq (X:=r1) (Y:=c) (c:=0) ⟨a2,a3⟩ g3<| .inl rfl
   have enm:((n:Nat):Int)+((m:Nat):Int)=((n+m:Nat):Int):=by omega
   rw[enm];refine Yd.bd (BN (by omega)) (Yd.bd m1 (Yd.bd (Ad ⟨by omega,by omega⟩) (Yd.bd (BN (by omega)) (Yd.bd (BN (by omega)) (Yd.bd a1 (Yd.bd b1 (Yd.bd (Ad ⟨by omega,by omega⟩) (Yd.bd (BN (by omega)) (Yd.bd (BN (by omega)) (Yd.bd (Ad ⟨by omega,by omega⟩) ?_))))))))));obtain⟨xa,xb⟩:=FI ha n;obtain⟨ya,yb⟩:=FI hb m;obtain⟨oa,ob⟩:=FI g1<|n+m
   have Mi:a.getD n 0*b.getD m 0<=(BB-1)*(BB-1):=P3 (by omega) (by omega) ya (by unfold BB;omega);have hD:BB*(hi+d1+d2)=a.getD n 0*b.getD m 0+p.getD (n+m) 0+c-r2:=by unfold BB at*;omega
   have hlt:hi+d1+d2<BB:=by
    generalize a.getD n 0*b.getD m 0=q at*
    unfold BB at*;omega
   have hw:wr .u64 (wr .u64 (hi+d1)+d2)=hi+d1+d2:=by
    have e1:wr .u64 (hi+d1)=hi+d1:=wrap_u64 ⟨by omega,by unfold BB at*;omega⟩;rw[e1];exact wrap_u64 ⟨by omega,by unfold BB at*;omega⟩
   dsimp only;rw[hw];refine Io _ ⟨Ju g1 _ ⟨b2,b3⟩,by simpa using g2,⟨by dsimp only;omega,hlt⟩,by dsimp only;omega,by dsimp only;omega,?_,?_⟩ (by dsimp only;omega)
   ·have e:(((m:Nat):Int)+1).toNat=m+1:=by omega
    simp only[e,CA];rw[fg (by omega),<-KY];have:=congrArg (List.drop 1) g6;rwa [F4,F4] at this
   ·have e:(((m:Nat):Int)+1).toNat=m+1:=by omega
    simp only[e,CA];rw[<-KY,En,Gd<|Az _,Ge (by omega),En o,En b,<-eo,Iu];have k1:Am n*(a.getD n 0*(AH (b.take m)+Am m*b.getD m 0))=Am n*(a.getD n 0*AH (b.take m))+Am (n+m)*(a.getD n 0*b.getD m 0):=by
     rw[BZ,BZ,eQ,F5 (a.getD n 0)<|Am m,DO]
    have k2:Am (n+m)*r2+BB*Am (n+m)*(hi+d1+d2)=Am (n+m)*(a.getD n 0*b.getD m 0)+Am (n+m)*p.getD (n+m) 0+Am (n+m)*c:=by
     rw[D8 BB,DO,<-BZ,<-BZ,<-BZ]
     congr 1;omega
    rw[k1];omega
  ·have hd:=Ay hd;have Jl:m=b.length:=by omega
   subst Jl;have enm:((n:Nat):Int)+((b.length:Nat):Int)=((n+b.length:Nat):Int):=by omega
   rw[enm];refine Yd.bd (Ad ⟨by omega,by omega⟩) (Yd.bd (BN (by omega)) (Yd.bd (BN (by omega)) (Yd.bd (Ad ⟨by omega,by omega⟩) ?_)));refine hn _ ⟨Ju g1 _ g3,by simpa using g2,by dsimp only;omega,by dsimp only;omega,?_⟩ (by dsimp only;omega);have e:(((n:Nat):Int)+1).toNat=n+1:=by omega
   simp only[e,CA];rw[show n+1+b.length=(n+b.length)+1 from by omega,En,Gd<|Az _,Ge (by omega),En a,Gg];rw[CB (l:=b) (by omega),h5] at g7;rw[g7,DO]
 ·have hc:=Ay hc;have Gc:n=a.length:=by omega
  subst Gc;refine Yd.Ak (RL h1 (by omega)) λw ⟨w1,w2,_⟩=>Yd.mk ⟨w1,?_⟩
  rw[w2];rw[CB (l:=o) (by omega),CB (l:=a) (by omega)] at h5;exact h5
def wrW(n:Int):IntKind.wrap .u64 n=n%BB:=by
 unfold IntKind.wrap
 rfl
def IE{n:Int}(h:0<=n/\n<BB):IntKind.wrap .u64 n=n:=by rw[wrW,TW h.1 h.2]
def yj(hx:0<=x)(hy:0<=y)(hs:y<2^s)(hd:x%2^s=0)(hw:x+y<BB):G4 .or .u64 x y=x+y:=by
 obtain⟨a,rfl⟩:=ER hx;obtain⟨b,rfl⟩:=ER hy;have CG:b<2^s:=by exact_mod_cast hs
 have hd':a%2^s=0:=by exact_mod_cast hd
 have ho:a|||b=a+b:=by
  have e:a=2^s*(a/2^s):=by have:=Nat.div_add_mod a (2^s);omega
  rw[e,<-Nat.two_pow_add_eq_or_of_lt CG]
 have hb:a+b<2^64:=by unfold BB at hw;omega
 unfold G4;show IntKind.wrap .u64 ((BitVec.ofInt 64 a|||BitVec.ofInt 64 b).toNat:Int)=_;have e1:BitVec.ofInt 64 (a:Int)=BitVec.ofNat 64 a:=fi ..;have e2:BitVec.ofInt 64 (b:Int)=BitVec.ofNat 64 b:=fi ..;rw[e1,e2,BitVec.toNat_or,fZ,fZ,Rj (by omega),Rj (by omega),ho];exact IE ⟨by omega,by omega⟩
def xT(hx:0<=x/\x<BB):G4 .and .u64 x 4294967295=x%4294967296:=by
 obtain⟨a,rfl⟩:=ER hx.1;have hb:a<2^64:=by have:=hx.2;unfold BB at this;omega
 unfold G4;show IntKind.wrap .u64 ((BitVec.ofInt 64 a&&&BitVec.ofInt 64 ((4294967295:Nat):Int)).toNat:Int)=_;have e1:BitVec.ofInt 64 (a:Int)=BitVec.ofNat 64 a:=fi ..;have e2:BitVec.ofInt 64 ((4294967295:Nat):Int)=BitVec.ofNat 64 4294967295:=fi ..;rw[e1,e2,BitVec.toNat_and,fZ,fZ,Rj hb,Rj (by omega),show 4294967295=2^32-1 from rfl,Nat.and_two_pow_sub_one_eq_mod];have:a%2^32<2^32:=N8 _ (by omega);rw[IE ⟨by omega,by unfold BB;omega⟩];omega
def iX(hs:s<=64):ME .u64 x (s:Int)=some (x/2^s):=by
 rw[am6 (by omega)]
 congr 1
 rw[CA,Dt<|show s<=IntKind.bits .u64 from hs];exact Yv _ (Ds (Int.pow_pos (by omega)))
def iY(hs:s<=64):MF .u64 x (s:Int)=some (x*2^s%BB):=by
 rw[am7 (by omega)]
 congr 1
 rw[CA,Dt<|show s<=IntKind.bits .u64 from hs,wrW]
def XE(h:s<=64):(2:Int)^s*2^(64-s)=BB:=by
 rw[<-Int.pow_add,show s+(64-s)=64 from by omega];rfl
def two_pos(s:Nat):(0:Int)<2^s:=Int.pow_pos (by omega)
def td(hs:s<=64)(hx:0<=x/\x<BB):
  ∃lo hi:Int,MF .u64 x (s:Int)=some lo/\ME .u64 x ((64:Int)-(s:Int))=some hi/\0<=lo/\lo<BB/\0<=hi/\hi<2^s/\lo%2^s=0/\x*2^s=lo+BB*hi:=by
 have e64:((64:Int)-(s:Int))=((64-s:Nat):Int):=by omega
 have h2:=XE hs;have p1:=two_pos s;have p2:=two_pos<|64-s
 have zU:x*2^s=(x%2^(64-s))*2^s+BB*(x/2^(64-s)):=by
  conv=>lhs;rw[<-OB x (2^(64-s))]
  rw[Gg,<-h2,fY,D8 (2^(64-s))<|2^s]
 have r0:=LI x (show(2:Int)^(64-s)≠0 by omega);have r1:=Kj x p2;have hlt:(x%2^(64-s))*2^s<BB:=by
  rw[<-h2,D8];exact Int.mul_lt_mul_of_pos_left r1 p1
 have KN:0<=(x%2^(64-s))*2^s:=Kd r0<|Ds p1
 refine⟨(x%2^(64-s))*2^s,x/2^(64-s),?_,?_,KN,hlt,Ke hx.1<|Ds p2,?_,Int.mul_emod_left _ _,zU⟩
 ·rw[iY hs,zU,Int.add_mul_emod_self_left,TW KN hlt]
 ·rw[e64,iX (by omega)]
 ·refine Yn p2 ?_;rw[h2];exact hx.2
structure HS(y1 y0 N d q r:Int):Prop where
 q0:0<=q
 q1:q<=4294967297
 e:q*y1+r=N
 r0:0<=r
 r1:r<4294967296
 up:N*4294967296+d<(q+1)*(y1*4294967296+y0)
structure HQ(y1 y0 N d q:Int):Prop where
 q0:0<=q
 q1:q<4294967296
 lo:q*(y1*4294967296+y0)<=N*4294967296+d
 up:N*4294967296+d<(q+1)*(y1*4294967296+y0)
structure HP(y1 y0 N d:Int):Prop where
 a0:2147483648<=y1
 a1:y1<4294967296
 b0:0<=y0
 b1:y0<4294967296
 n0:0<=N
 n1:N<y1*4294967296+y0
 d0:0<=d
 d1:d<4294967296
def yQ(p:HP y1 y0 N d):HS y1 y0 N d (N/y1) (N-N/y1*y1):=by
 obtain⟨a0,a1,b0,b1,n0,n1,d0,d1⟩:=p;have h1:=OB N y1;have h2:=LI N (show y1≠0 by omega);have h3:=Kj N (show 0<y1 by omega);have h4:0<=N/y1:=Ke n0 (by omega)
 generalize N/y1=q at*
 generalize N%y1=r at*
 rw[D8 y1 q] at h1;refine⟨h4,?_,by omega,by omega,by omega,?_⟩
 ·have:q<=4294967297\/4294967298<=q:=by omega
  rcases this with h|h
  ·exact h
  ·have:4294967298*y1<=q*y1:=M8 h (by omega);omega
 ·have hq:0<=q*y0:=Kd h4 b0;rw[Gg,BZ,<-DO];omega
def aaC(p:HP y1 y0 N d)(h:HS y1 y0 N d q r)(hc: ¬4294967296<=q)(hd: ¬4294967296*r+d<q*y0):HQ y1 y0 N d q:=by
 obtain⟨a0,a1,b0,b1,n0,n1,d0,d1⟩:=p;obtain⟨q0,q1,e,r0,r1,up⟩:=h;refine⟨q0,by omega,?_,up⟩;rw[BZ,<-DO];omega
def iH(p:HP y1 y0 N d)(h:HS y1 y0 N d q r)(hc:4294967296<=q\/4294967296*r+d<q*y0):1<=q/\N*4294967296+d<(q-1+1)*(y1*4294967296+y0):=by
 obtain⟨a0,a1,b0,b1,n0,n1,d0,d1⟩:=p;obtain⟨q0,q1,e,r0,r1,up⟩:=h;have e1:q-1+1=q:=by omega
 rw[e1,BZ,<-DO];rcases hc with hc|hc
 ·refine⟨by omega,?_⟩;have h1:4294967296*y1<=q*y1:=M8 hc (by omega);have h2:4294967296*y0<=q*y0:=M8 hc (by omega);omega
 ·refine⟨?_,by omega⟩;have:1<=q\/q=0:=by omega
  rcases this with h|h
  ·exact h
  ·subst h;omega
def xA(p:HP y1 y0 N d)(h:HS y1 y0 N d q r)(hc:4294967296<=q\/4294967296*r+d<q*y0)(hb:4294967296<=r+y1):HQ y1 y0 N d (q-1):=by
 obtain⟨u1,u2⟩:=iH p h hc;obtain⟨a0,a1,b0,b1,n0,n1,d0,d1⟩:=p;obtain⟨q0,q1,e,r0,r1,up⟩:=h;have hy:(q-1)*y0<=4294967296*y0:=M8 (by omega) b0;have e2:(q-1)*y1=q*y1-y1:=by rw[Rk,G2]
 have lo:(q-1)*(y1*4294967296+y0)<=N*4294967296+d:=by
  rw[BZ,<-DO,e2];omega
 refine⟨by omega,?_,lo,u2⟩;have:q-1<4294967296\/4294967296<=q-1:=by omega
 rcases this with h|h
 ·exact h
 ·have:4294967296*(y1*4294967296+y0)<=(q-1)*(y1*4294967296+y0):=M8 h (by omega);omega
def yP(p:HP y1 y0 N d)(h:HS y1 y0 N d q r)(hc:4294967296<=q\/4294967296*r+d<q*y0)(hb:r+y1<4294967296):HS y1 y0 N d (q-1) (r+y1):=by
 obtain⟨u1,u2⟩:=iH p h hc;obtain⟨a0,a1,b0,b1,n0,n1,d0,d1⟩:=p;obtain⟨q0,q1,e,r0,r1,up⟩:=h;have e2:(q-1)*y1=q*y1-y1:=by rw[Rk,G2]
 exact⟨by omega,by omega,by omega,by omega,by omega,u2⟩
def yR(p:HP y1 y0 N d)(h:HS y1 y0 N d q r):
  ((decide<|4294967296<=q)||(decide<|(IntKind.wrap .u64<|(IntKind.wrap .u64<|4294967296*r)+d)<(IntKind.wrap .u64<|q*y0)))=decide (4294967296<=q\/4294967296*r+d<q*y0):=by
 obtain⟨a0,a1,b0,b1,n0,n1,d0,d1⟩:=p;obtain⟨q0,q1,e,r0,r1,up⟩:=h;rw[IE (n:=4294967296*r) ⟨by omega,by unfold BB;omega⟩,IE (n:=4294967296*r+d) ⟨by omega,by unfold BB;omega⟩];by_cases hq:4294967296<=q
 ·rw[Ab hq,Ab<|show _\/_ from .inl hq,VJ]
 ·have h1:0<=q*y0:=Kd q0 b0;have h2:q*y0<=4294967295*4294967295:=P3 (by omega) (by omega) b0 (by omega);rw[IE (n:=q*y0) ⟨h1,by unfold BB;omega⟩,BH hq,Rf]
  congr 1
  simp[hq]
def yS(p:HP y1 y0 N d)(h:HQ y1 y0 N d q)(hy:y=y1*4294967296+y0):
  IntKind.wrap .u64 (IntKind.wrap .u64 (IntKind.wrap .u64 (N*4294967296)+d)-IntKind.wrap .u64 (q*y))=N*4294967296+d-q*y:=by
 obtain⟨a0,a1,b0,b1,n0,n1,d0,d1⟩:=p;obtain⟨q0,q1,lo,up⟩:=h;subst hy;simp only[wrW];rw[Gg,G2] at up
 generalize q*(y1*4294967296+y0)=Z at*
 unfold BB;omega
def Xr(h:n≠0):2^Nat.log2 n<=n/\n<2^(Nat.log2 n+1):=⟨Nat.log2_self_le h,Nat.lt_log2_self⟩
def zL(h0:0<y)(h1:y<BB):∃s:Nat,Vu y=some (s:Int)/\s<=63/\BB<=2*(y*2^s)/\y*2^s<BB:=by
 obtain⟨n,rfl⟩:=ER<|Ds h0
 have hn:n≠0:=by omega
 obtain⟨l1,l2⟩:=Xr hn;have hl:Nat.log2 n<=63:=by
  have:Nat.log2 n<64:=by
   rw[Q6 hn];have:n<18446744073709551616:=by have:=h1;unfold BB at this;omega
   exact this
  omega
 refine⟨63-Nat.log2 n,?_,by omega,?_,?_⟩
 ·unfold Vu GY;rw[Ab (show(0:Int)<=(n:Int) by omega),Ab<|show((n:Nat):Int)<18446744073709551616 from h1];show some (64-((NQ ((n:Nat):Int).toNat:Nat):Int))=_;have:NQ n=Nat.log2 n+1:=by
   unfold NQ;have:Nat.beq n 0=false:=by
    cases hb:Nat.beq n 0 with
    |false=>rfl
    |true=>exact absurd (Dj hb) hn
   rw[this];rfl
  rw[CA,this]
  congr 1;omega
 ·have e:2^(63-Nat.log2 n)*2^Nat.log2 n=2^63:=by rw[<-Lx];congr 1;omega
  have:2^63<=2^(63-Nat.log2 n)*n:=by rw[<-e];exact Va _ l1
  have h2:(2:Int)^63<=2^(63-Nat.log2 n)*(n:Int):=by exact_mod_cast this
  rw[D8] at h2;unfold BB;omega
 ·have e:2^(63-Nat.log2 n)*2^(Nat.log2 n+1)=2^64:=by rw[<-Lx];congr 1;omega
  have:2^(63-Nat.log2 n)*n<2^64:=by rw[<-e];exact Nat.mul_lt_mul_of_pos_left l2<|VR _
  have h2:2^(63-Nat.log2 n)*(n:Int)<(2:Int)^64:=by exact_mod_cast this
  rw[D8] at h2;unfold BB;omega
def nE(hx:0<=x/\x<BB)(hy:0<y):U8 .u64 x y=some (x/y):=by
 unfold U8;rw[BH (show¬y=0 by omega)];show some (IntKind.wrap .u64<|x.tdiv y)=_;rw[Int.tdiv_eq_ediv_of_nonneg hx.1,IE ⟨Ke hx.1<|Ds hy,Int.lt_of_le_of_lt (Rh _ hx.1) hx.2⟩]
def Q1(hx:0<=x)(hy:0<y):FP x y=some (x%y):=by
 unfold FP;rw[BH (show¬y=0 by omega)];show some (x.tmod y)=_;rw[Int.tmod_eq_emod_of_nonneg hx]
def zt:ME .u64 x 32=some (x/4294967296):=iX (s:=32) (by omega)
def vi{hi lo:Int}(KM:0<=hi/\hi<y)(FG:0<=lo/\lo<BB)(hy:y<BB):
  Yd (λp=>(0<=p.1/\p.1<BB)/\(0<=p.2/\p.2<y)/\hi*BB+lo=p.1*y+p.2) (Ws hi lo y):=by
 unfold Ws;dsimp only[wr];refine Yd.cond (λhc=>absurd (AZ hc) (by omega)) (λ_=>Yd.cond (λhc=>absurd (AZ hc) (by omega))<|λ_=>Yd.cond (λh0=>?_)<|λh0=>?_)
 ·have h0:=AZ h0;subst h0;refine Yd.bd (nE FG KM.2) (Yd.bd (Q1 FG.1 KM.2) (Yd.mk ⟨⟨Ke FG.1 (by omega),Int.lt_of_le_of_lt (Rh _ FG.1) FG.2⟩,⟨LI _ (by omega),Kj _ KM.2⟩,?_⟩));have:=OB lo y;rw[D8] at this;dsimp only;omega
 ·have h0:=Ay h0;obtain⟨s,l1,l2,l3,l4⟩:=zL (y:=y) (by omega) hy;have ws:IntKind.wrap .u64 (s:Int)=s:=IE ⟨by omega,by unfold BB;omega⟩;have apo:IntKind.wrap .u64 ((64:Int)-s)=64-s:=IE ⟨by omega,by unfold BB;omega⟩;have ps:=two_pos s;have hgt:hi*2^s+2^s<=y*2^s:=by
   have:(hi+1)*2^s<=y*2^s:=M8 (by omega)<|Ds ps
   rw[Gg,G2] at this;exact this
  have hn:0<=hi*2^s:=Kd KM.1<|Ds ps
  obtain⟨u0,u1,e1,e2,a1,a2,a3,a4,a5,a6⟩:=td (x:=lo) (s:=s) (by omega) FG;have eY:MF .u64 y (s:Int)=some (y*2^s):=by rw[iY (by omega),TW (by omega) l4]
  have eH:MF .u64 hi (s:Int)=some (hi*2^s):=by rw[iY (by omega),TW hn (by omega)]
  have eO:G4 .or .u64 (hi*2^s) u1=hi*2^s+u1:=yj (s:=s) hn a3 a4 (Int.mul_emod_left _ _) (by omega);refine Yd.bd l1 ?_;rw[ws,apo];refine Yd.bd eY<|Yd.bd zt<|Yd.bd eH<|Yd.bd e2<|Yd.bd e1<|Yd.bd zt ?_
  rw[eO,xT (x:=u0) ⟨a1,a2⟩,xT (x:=y*2^s) ⟨by omega,l4⟩];have Tz:hi*BB*2^s+lo*2^s=(hi*2^s+u1)*BB+u0:=by
   rw[a6,Gg,fY hi BB,D8 BB u1];omega
  generalize hYd:y*2^s=Y at*
  generalize hNd:hi*2^s+u1=N at*
  have y1b:2147483648<=Y/4294967296:=by unfold BB at*;omega
  have y1c:Y/4294967296<4294967296:=by unfold BB at*;omega
  have yy:Y=Y/4294967296*4294967296+Y%4294967296:=by omega
  have hP1:HP (Y/4294967296) (Y%4294967296) N (u0/4294967296):=⟨y1b,y1c,by omega,by omega,by omega,by omega,by omega,by unfold BB at*;omega⟩;have hu:u0=u0/4294967296*4294967296+u0%4294967296:=by omega
  have u00:0<=u0%4294967296:=by omega
  have u01:u0%4294967296<4294967296:=by omega
  have hYB:Y<BB:=l4
  generalize Y/4294967296=y1 at*
  generalize Y%4294967296=y0 at*
  generalize u0/4294967296=d1 at*
  generalize u0%4294967296=d0 at*
  have hN:0<=N/\N<BB:=⟨hP1.n0,by omega⟩;refine Yd.bd (nE hN (by omega)) ?_;refine Yd.jn (HQ y1 y0 N d1) ?_ ?_
  ·intro q1 hq1;rw[yS hP1 hq1 yy];have g1:=hq1.lo;have g2:=hq1.up;rw[<-yy] at g1 g2;rw[Gg,G2] at g2;have hP2:HP y1 y0 (N*4294967296+d1-q1*Y) d0:=⟨y1b,y1c,hP1.b0,hP1.b1,by omega,by omega,u00,u01⟩
   generalize hM:N*4294967296+d1-q1*Y=M at*
   refine Yd.bd (nE ⟨hP2.n0,by omega⟩ (by omega)) ?_;refine Yd.jn (HQ y1 y0 M d0) ?_ ?_
   ·intro q0 hq0;rw[yS hP2 hq0 yy];have f1:=hq0.lo;have f2:=hq0.up;rw[<-yy] at f1 f2;rw[Gg,G2] at f2;have MH:hi*BB*2^s+lo*2^s=(q1*4294967296+q0)*Y+(M*4294967296+d0-q0*Y):=by
     rw[Tz,Gg,fY];unfold BB
     generalize q1*Y=A at*
     generalize q0*Y=B at*
     omega
    generalize hR:M*4294967296+d0-q0*Y=R at*
    have hR0:0<=R:=by omega
    have hR1:R<Y:=by omega
    refine Yd.bd (iX (by omega))<|Yd.mk ?_
    have q1a:=hq1.q0;have q1b:=hq1.q1;have q0a:=hq0.q0;have q0b:=hq0.q1;have eq:IntKind.wrap .u64 (IntKind.wrap .u64 (q1*4294967296)+q0)=q1*4294967296+q0:=by
     rw[IE (n:=q1*4294967296) ⟨by omega,by unfold BB;omega⟩,IE ⟨by omega,by unfold BB;omega⟩]
    dsimp only;rw[eq];have hdiv:R=2^s*(hi*BB+lo-(q1*4294967296+q0)*y):=by
     rw[<-hYd] at MH;rw[He,BZ,D8 (2^s)<|hi*BB,D8 (2^s) lo,D8 (2^s)<|_*y,DO _ y];omega
    have hdd:R/2^s=hi*BB+lo-(q1*4294967296+q0)*y:=by
     rw[hdiv,Int.mul_ediv_cancel_left _ (by omega)]
    refine⟨⟨by omega,by unfold BB;omega⟩,⟨Ke hR0 (by omega),Yn ps (by rw[hYd];exact hR1)⟩,?_⟩;rw[hdd];omega
   ·intro k hk;have Lj:=yQ hP2;have w1:0<=M/y1:=Ke hP2.n0 (by omega);have e1:IntKind.wrap .u64 (M-IntKind.wrap .u64 (M/y1*y1))=M-M/y1*y1:=by
     have:=Lj.e;have:=Lj.r0;have:=Lj.r1;have h1:0<=M/y1*y1:=Kd w1 (by omega);rw[IE (n:=M/y1*y1) ⟨h1,by have:=hP2.n1;omega⟩,IE ⟨by omega,by unfold BB;omega⟩]
    rw[e1];refine Yd.lp (λs:Int×Int=>HS y1 y0 M d0 s.2 s.1) (λs:Int×Int=>s.2.toNat) ?_ _ _ Lj (by have:=Lj.q0;have:=Lj.q1;dsimp only;omega);rintro next ⟨r,q⟩ h pW
    dsimp only at h⊢;rw[yR hP2 h];have wr1:IntKind.wrap .u64 (r+y1)=r+y1:=IE ⟨by have:=h.r0;omega,by have:=h.r1;unfold BB;omega⟩;refine Yd.cond (λhc=>?_)<|λhc=>?_
    ·have hc:=AZ hc;have hup:=(iH hP2 h hc).1;have wq:IntKind.wrap .u64 (q-1)=q-1:=IE ⟨by omega,by have:=h.q1;unfold BB;omega⟩;simp only[wr1,wq];refine Yd.cond (λhd=>?_)<|λhd=>?_
     ·exact hk _<|xA hP2 h hc<|AZ hd
     ·exact pW _ (yP hP2 h hc (by have:=Ay hd;omega)) (by dsimp only;omega)
    ·have hc:=Ay hc;exact hk _<|aaC hP2 h (λa=>hc<| .inl a)<|λa=>hc<| .inr a
  ·intro k hk;have Lj:=yQ hP1;have w1:0<=N/y1:=Ke hP1.n0 (by omega);have e1:IntKind.wrap .u64 (N-IntKind.wrap .u64 (N/y1*y1))=N-N/y1*y1:=by
    have:=Lj.e;have:=Lj.r0;have:=Lj.r1;have h1:0<=N/y1*y1:=Kd w1 (by omega);rw[IE (n:=N/y1*y1) ⟨h1,by omega⟩,IE ⟨by omega,by unfold BB;omega⟩]
   rw[e1];refine Yd.lp (λs:Int×Int=>HS y1 y0 N d1 s.1 s.2) (λs:Int×Int=>s.1.toNat) ?_ _ _ Lj (by have:=Lj.q0;have:=Lj.q1;dsimp only;omega);rintro next ⟨q,r⟩ h pW
   dsimp only at h⊢;rw[yR hP1 h];have wr1:IntKind.wrap .u64 (r+y1)=r+y1:=IE ⟨by have:=h.r0;omega,by have:=h.r1;unfold BB;omega⟩;refine Yd.cond (λhc=>?_)<|λhc=>?_
   ·have hc:=AZ hc;have hup:=(iH hP1 h hc).1;have wq:IntKind.wrap .u64 (q-1)=q-1:=IE ⟨by omega,by have:=h.q1;unfold BB;omega⟩;simp only[wr1,wq];refine Yd.cond (λhd=>?_)<|λhd=>?_
    ·exact hk _<|xA hP1 h hc<|AZ hd
    ·exact pW _ (yP hP1 h hc (by have:=Ay hd;omega)) (by dsimp only;omega)
   ·have hc:=Ay hc;exact hk _<|aaC hP1 h (λa=>hc<| .inl a)<|λa=>hc<| .inr a
def nC:(List.replicate n (0:Int)).getD m 0=0:=by
 rcases Gh m n with h|h
 ·simp[Eo,h]
 ·exact Rr (by simpa using h)
def we{lo:Int}(hs:s<=64)(h:lo%2^s=0)(hl:lo<BB):lo+2^s<=BB:=by
 have e:=OB lo<|2^s
 rw[h] at e;have h2:=XE hs;have p:=two_pos s
 generalize lo/2^s=k at*
 have hk:k<2^(64-s):=by
  rcases(show k<2^(64-s)\/2^(64-s)<=k by omega) with h'|h'
  ·exact h'
  ·have:=ET h' (Ds p);omega
 have:=ET (show k+1<=2^(64-s) from hk)<|Ds p
 rw[BZ,Jv] at this;omega
def xS(hx:0<=x)(hy:0<=y)(hs:y<2^s)(hd:x%2^s=0)(hw:x+y<BB):G4 .or .u64 y x=x+y:=by
 rw[<-yj hx hy hs hd hw];unfold G4;dsimp only;rw[BitVec.or_comm]
def tj(ha:okW a)(hs:s<=63)(hl:a.length<2199023255552):Yd (λw=>okW w/\w.length=a.length+1/\AH w=AH a*2^s) (XL a (s:Int)):=by
 unfold XL;refine Yd.bd (Ad ⟨by omega,by omega⟩) (Yd.bd (PO (by omega) (by omega) (by omega)) ?_);have ps:=two_pos s;refine Yd.lp (λt:A3 Int×Int=>okW t.1/\t.1.length=a.length+1/\0<=t.2/\t.2<=a.length/\t.1.getD t.2.toNat 0<2^s/\(∀m,t.2.toNat<m->t.1.getD m 0=0)/\AH (t.1.take<|t.2.toNat+1)=AH (a.take t.2.toNat)*2^s)
  (λt:A3 Int×Int=>a.length-t.2.toNat) ?_ _ _ ⟨UY _,by simp only[NJ];omega,by dsimp only;omega,by dsimp only;omega,?_,?_,?_⟩ (by dsimp only;omega)
 rotate_left
 ·dsimp only;rw[nC];exact ps
 ·intro m hm;exact nC
 ·dsimp only;rw[Yl,jq];simp[AH]
 rintro next ⟨o,i⟩ ⟨h1,h2,h3,h4,h5,h6,h7⟩ hn
 simp only at h1 h2 h3 h4 h5 h6 h7 hn⊢;obtain⟨n,rfl⟩:=ER h3;simp only[CA,M7] at*;refine Yd.cond (λhc=>?_)<|λhc=>?_
 ·have hc:=AZ hc;refine Yd.jn (λp:A3 Int=>okW p/\p.length=a.length+1/\p.getD (n+1) 0<2^s/\(∀m,n+1<m->p.getD m 0=0)/\AH (p.take<|n+2)=AH (a.take<|n+1)*2^s) ?_ ?_
  ·rintro p ⟨g1,g2,g3,g4,g5⟩;refine Yd.bd (Ad ⟨by omega,by omega⟩) (hn _ ⟨g1,g2,by dsimp only;omega,by dsimp only;omega,?_⟩ (by dsimp only;omega));have e:(((n:Nat):Int)+1).toNat=n+1:=by omega
   simp only[e];exact⟨g3,g4,g5⟩
  ·intro k hk;obtain⟨lo,hi,b1,b2,b3,b4,b5,b6,b7,b8⟩:=td (x:=a.getD n 0) (s:=s) (by omega)<|FI ha n
   have aau:=we (by omega) b7 b4;have ho:=FI h1 n;have eor:G4 .or .u64 (o.getD n 0) lo=lo+o.getD n 0:=xS b3 ho.1 h5 b7 (by omega);refine Yd.bd (BN (by omega)) (Yd.bd (BN (by omega)) (Yd.bd (BN (by omega)) (Yd.bd b1 (Yd.bd (BN (by omega)) (Yd.bd (BN (by omega)) ?_)))));rw[eor];have KM:hi<BB:=by
    have h2:=XE (s:=s) (by omega);have:=two_pos<|64-s
    have:(2:Int)^s*1<=2^s*2^(64-s):=ET this<|Ds ps
    omega
   have pZ:AH (o.take n)+Am n*o.getD n 0=AH (a.take n)*2^s:=by rw[<-h7,En]
   have JW:AH (o.take n)+Am n*(lo+o.getD n 0)+Am (n+1)*hi=AH (a.take<|n+1)*2^s:=by
    rw[En a,Gg,<-pZ,DO,b8,BZ,BZ,Iu,F5<|Am n,DO BB];omega
   refine Yd.cond (λhd=>?_)<|λhd=>?_
   ·have hd:=AZ hd;have e1:((n:Nat):Int)+1=((n+1:Nat):Int):=by omega
    rw[e1];refine Yd.bd (Ad ⟨by omega,by omega⟩) (Yd.bd (Ad ⟨by omega,by omega⟩)<|Yd.bd b2 ?_);refine Yd.bd (BN (by rw[JP];omega)) (Yd.bd (BN (by rw[JP];omega)) ?_);simp only[CA];refine hk _ ⟨Ju (Ju h1 _ ⟨by omega,by omega⟩) _ ⟨b5,KM⟩,by simpa using h2,?_,?_,?_⟩
    ·rw[Ge (by rw[JP];omega)];exact b6
    ·intro m hm;rw[getD_set_ne (by omega),getD_set_ne (by omega)];exact h6 m (by omega)
    ·rw[En,Gd<|Az _,Ge (by rw[JP];omega),En,Gd<|Az _,Ge (by omega)];exact JW
   ·have hd:=Ay hd;have Lg:s=0:=by omega
    subst Lg;have ard:hi=0:=by rw[Int.pow_zero] at b6;omega
    subst ard;refine hk _ ⟨Ju h1 _ ⟨by omega,by omega⟩,by simpa using h2,?_,?_,?_⟩
    ·rw[getD_set_ne (by omega),h6 _ (by omega)];exact ps
    ·intro m hm;rw[getD_set_ne (by omega)];exact h6 m (by omega)
    ·have e2:(o.set n<|lo+o.getD n 0).getD (n+1) 0=0:=by rw[getD_set_ne (by omega),h6 _ (by omega)]
     rw[En,e2,En,Gd<|Az _,Ge (by omega)];exact JW
 ·have hc:=Ay hc;have Gc:n=a.length:=by omega
  subst Gc;refine Yd.mk ⟨h1,h2,?_⟩;rw[CB (l:=o) (by omega),CB (l:=a) (by omega)] at h7;exact h7
def iC{m:Int}(hP:0<P)(hU:UL<P)(hV:0<=VL)(hm:0<=m)(h:X+1<=m*Y):UL+P*X<m*(VL+P*Y):=by
 have h1:=ET h<|Ds hP
 rw[BZ,Jv] at h1;have h2:0<=m*VL:=Kd hm hV;rw[BZ,F5 m P Y];omega
def alB(e:q*v1+r=U2)(h:BB*r+u0<q*v0):(u0+BB*U2)+1<=q*(v0+BB*v1):=by
 rw[BZ,F5 q BB v1,<-e,BZ];omega
def alC(e:q*v1+r=U2)(hr:r<v1)(hu:u0<BB)(hq:0<=q)(hv:0<=v0):(u0+BB*U2)+1<=(q+1)*(v0+BB*v1):=by
 rw[BZ,F5 _ BB v1,<-e,Gg q 1 v1,G2];have:0<=(q+1)*v0:=Kd (by omega) hv;unfold BB at*;omega
def alD{R:Int}(e:q*v1+R=U2)(hq:0<=q/\q<BB)(hR:0<=R)(HL:0<=v0/\v0<BB)(hu0:0<=u0)(hv1:BB<=2*v1)(h:BB<=R\/q*v0<=BB*R+u0)
 (hP:0<P)(hU:0<=UL)(hV:VL<P)(hV0:0<=VL):(q-1)*(VL+P*(v0+BB*v1))<=UL+P*(u0+BB*U2):=by
 have hY:q*(v0+BB*v1)<=u0+BB*U2:=by
  rw[BZ,F5 q BB v1,<-e,BZ];have:q*v0<=BB*R+u0:=by
   rcases h with h|h
   ·have:q*v0<=(BB-1)*(BB-1):=P3 (by omega) (by omega) HL.1 (by unfold BB;omega);unfold BB at*;omega
   ·exact h
  omega
 have h1:=ET hY<|Ds hP
 have h2:q*VL<=BB*P:=P3 (by omega) (by omega) hV0 (by unfold BB;omega);have h3:P*BB<=P*(v0+BB*v1):=ET (by unfold BB at*;omega)<|Ds hP
 rw[Rk,G2,BZ q,F5 q P];rw[D8 P BB] at h3;omega
def amd{u1 u2:Int}(hP:0<P)(hU:0<=UL)(hu0:0<=u0)(hu1:0<=u1)(hV:VL<P)(HL:v0<BB)(h:UL+P*(u0+BB*(u1+BB*u2))<BB*(VL+P*(v0+BB*v1))):u2<=v1:=by
 rcases(show v1<u2\/u2<=v1 by omega) with h'|h'
 ·exfalso;have h1:BB*(v0+BB*v1+1)<=u0+BB*(u1+BB*u2):=by unfold BB at*;omega
  have h2:=ET h1<|Ds hP
  rw[F5 P BB,BZ P _ 1,Jv] at h2;rw[BZ BB VL] at h;rw[BZ BB _ P] at h2;have h3:BB*VL<=BB*P:=ET (by omega) (by unfold BB;omega);omega
 ·exact h'
def agL(h:l.length=k+3):AH l=AH (l.take k)+Am k*(l.getD k 0+BB*(l.getD (k+1) 0+BB*l.getD (k+2) 0)):=by
 have h1:AH (l.take<|k+3)=AH l:=by rw[CB (by omega)]
 rw[<-h1,En,En,En,Iu<|k+1,Iu,BZ,BZ,BZ,F5 (Am k) BB,F5 (Am k) BB,F5 (Am k) BB,DO,DO,DO];omega
def agM(h:l.length=k+2):AH l=AH (l.take k)+Am k*(l.getD k 0+BB*l.getD (k+1) 0):=by
 have h1:AH (l.take<|k+2)=AH l:=by rw[CB (by omega)]
 rw[<-h1,En,En,Iu,BZ,F5 (Am k) BB,DO];omega
def toNat_succ'(n:Nat):(((n:Nat):Int)+1).toNat=n+1:=by omega
def aii{u v:A3 Int}(hu:okW u)(hv:okW v)(Lf:u.length=k+3)(L2:v.length=k+2)(hk:k<2199023255552)(WX:BB<=2*v.getD (k+1) 0)(hlt:AH u<BB*AH v):
  Yd (λr=>okW r.1/\r.1.length=k+3/\(0<=r.2/\r.2<BB)/\AH u=r.2*AH v+AH r.1/\AH r.1<AH v) (cc u v):=by
 unfold cc;have eU:=agL Lf;have eV:=agM L2;obtain⟨bU0,bU1⟩:=G0<|Lt hu k
 obtain⟨bV0,bV1⟩:=G0<|Lt hv k
 rw[DI,Dt (by omega)] at bU1 bV1;have hP:=L7 k;have hu0:=FI hu k;have hu1:=FI hu<|k+1
 have hu2:=FI hu<|k+2
 have HL:=FI hv k;have hv1:=FI hv<|k+1
 have hVP:0<=AH v:=(G0 hv).1;have hU0:0<=AH u:=(G0 hu).1;have e1:((v.length:Int)-1)=((k+1:Nat):Int):=by omega
 have e2:((v.length:Int)-2)=((k:Nat):Int):=by omega
 have e0:(v.length:Int)=((k+2:Nat):Int):=by omega
 rw[e1,e2,e0];have gA:∀{l:A3 Int},l.length=k+3->A8 l ((k+2:Nat):Int)=some (l.getD (k+2) 0):=λh=>BN (by omega)
 refine Yd.bd (gA Lf) (Yd.bd (gA Lf) (Yd.bd (Ad ⟨by omega,by omega⟩) (Yd.bd (BN (by omega)) ?_)));have hV:AH v<Am (k+2):=by have:=(G0 hv).2;rw[L2] at this;exact this
 refine Yd.jn (λs:Int×Int×Int=>(0<=s.1/\s.1<BB)/\(0<=s.2.1/\s.2.1<BB)/\(s.2.2=0\/s.2.2=1)/\s.1*v.getD (k+1) 0+(s.2.1+BB*s.2.2)=u.getD (k+1) 0+BB*u.getD (k+2) 0/\AH u<(s.1+1)*AH v) ?_ ?_
 rotate_left
 ·intro Je aas;refine Yd.cond (λhc=>?_)<|λhc=>?_
  ·have hc:=AZ hc;obtain⟨r,d,a1,a2,a3,a4,a5⟩:=Vq (X:=u.getD (k+1) 0) (Y:=v.getD (k+1) 0) (c:=0) hu1 hv1<| .inl rfl
   refine Yd.bd (Ad ⟨by omega,by omega⟩) (Yd.bd (BN (by omega)) (Yd.bd (BN (by omega)) (Yd.bd (Ad ⟨by omega,by omega⟩) (Yd.bd (BN (by omega))<|Yd.bd a1 ?_))));have aaA:u.getD (k+2) 0<=v.getD (k+1) 0:=amd hP bU0 hu0.1 hu1.1 bV1 HL.2 (by rw[<-eU,<-eV];exact hlt);refine aas _ ⟨⟨by dsimp only;omega,by dsimp only;unfold BB;omega⟩,⟨a2,a3⟩,a4,?_,?_⟩
   ·dsimp only;unfold BB at*;omega
   ·dsimp only;exact hlt
  ·have hc:=Ay hc;refine Yd.bd (gA Lf) (Yd.bd (gA Lf) (Yd.bd (Ad ⟨by omega,by omega⟩) (Yd.bd (BN (by omega)) (Yd.bd (BN (by omega)) (Yd.bd (Ad ⟨by omega,by omega⟩) (Yd.bd (BN (by omega)) ?_))))));refine Yd.Ak (vi ⟨hu2.1,by omega⟩ hu1 hv1.2) ?_;rintro⟨q,r⟩ ⟨d1,d2,d3⟩;dsimp only at d1 d2 d3⊢;have ee:q*v.getD (k+1) 0+r=u.getD (k+1) 0+BB*u.getD (k+2) 0:=by rw[D8 BB];omega
   refine aas _ ⟨d1,⟨d2.1,by dsimp only;omega⟩,.inl rfl,by dsimp only;omega,?_⟩;dsimp only;have:=iC hP bU1 bV0 (show 0<=q+1 by omega)<|alC ee d2.2 hu0.2 d1.1 HL.1
   rw[<-eU,<-eV] at this;exact this
 rintro⟨q1,r1,c1⟩ ⟨s1,s2,s3,s4,s5⟩;dsimp only at s1 s2 s3 s4 s5⊢;refine Yd.jn (λq:Int=>(0<=q/\q<BB)/\(q-1)*AH v<=AH u/\AH u<(q+1)*AH v) ?_ ?_
 rotate_left
 ·intro Mk arZ;refine Yd.lp (λs:Int×Int×Int=>(0<=s.1/\s.1<BB)/\(0<=s.2.1/\s.2.1<BB)/\(s.2.2=0\/s.2.2=1)/\s.1*v.getD (k+1) 0+(s.2.1+BB*s.2.2)=u.getD (k+1) 0+BB*u.getD (k+2) 0/\AH u<(s.1+1)*AH v)
   (λs:Int×Int×Int=>s.1.toNat) ?_ _ _ ⟨s1,s2,s3,s4,s5⟩ (by dsimp only;unfold BB at*;omega)
  rintro next ⟨q,r,c⟩ ⟨h1,h2,h3,h4,h5⟩ hn
  dsimp only at h1 h2 h3 h4 h5 hn⊢;have fin:(BB<=r+BB*c\/q*v.getD k 0<=BB*(r+BB*c)+u.getD k 0)->Yd _ (Mk q):=λhh=>by
   refine arZ q ⟨h1,?_,h5⟩;have:=alD (P:=Am k) (UL:=AH<|u.take k) (VL:=AH<|v.take k) h4 h1 (by unfold BB at*;omega) HL hu0.1 WX hh hP bU0 bV1 bV0;rw[<-eU,<-eV] at this;exact this
  refine Yd.cond (λhc=>?_)<|λhc=>?_
  ·have hc:=AZ hc;subst hc;obtain⟨hi,lo,m1,m2,m3,m4,m5,m6⟩:=fD h1 HL;refine Yd.bd (Ad ⟨by omega,by omega⟩) (Yd.bd (BN (by omega))<|Yd.bd m1 ?_);have key:Yd (λr=>okW r.1/\r.1.length=k+3/\(0<=r.2/\r.2<BB)/\AH u=r.2*AH v+AH r.1/\AH r.1<AH v)
     (cond (((decide<|hi<r)||((decide<|hi=r)&&(decide<|lo<=u.getD k 0)))) (
     Mk q
    ) (
     bd (AE ((k+1:Nat):Int)) λIg=>
     bd (A8 v Ig) λKF=>
     bd (LA r KF (0:Int)) λHp=>
     next (wr .u64<|q-(1:Int),Hp.1,Hp.2)
    )):=by
    refine Yd.cond (λhd=>?_)<|λhd=>?_
    ·refine fin (.inr ?_);rw[m6];rw[Kf,BU,Ev,Ev,Ev] at hd;unfold BB at*;omega
    ·have MH:BB*r+u.getD k 0<q*v.getD k 0:=by
      rw[m6];rw[LL,Bool.and_eq_false_iff,HB,HB,HB] at hd;unfold BB at*;omega
     obtain⟨z,d,a1,a2,a3,a4,a5⟩:=Vq (X:=r) (Y:=v.getD (k+1) 0) (c:=0) h2 hv1<| .inl rfl
     refine Yd.bd (Ad ⟨by omega,by omega⟩) (Yd.bd (BN (by omega))<|Yd.bd a1 ?_);have hUq:=iC hP bU1 bV0 h1.1 (alB (q:=q) (r:=r) (v1:=v.getD (k+1) 0) (U2:=u.getD (k+1) 0+BB*u.getD (k+2) 0) (by omega) MH);rw[<-eU,<-eV] at hUq;have hq1:1<=q:=by
      rcases(show 1<=q\/q=0 by omega) with h|h
      ·exact h
      ·rw[h,YW] at hUq;omega
     have ew:wr .u64 (q-1)=q-1:=IE ⟨by omega,by omega⟩;rw[ew];refine hn _ ⟨⟨by dsimp only;omega,by dsimp only;omega⟩,⟨a2,a3⟩,a4,?_,?_⟩ (by dsimp only;omega)
     ·dsimp only;rw[Rk,G2];omega
     ·dsimp only;rw[show q-1+1=q from by omega];exact hUq
   have gO:∀{g:Bool} {e:A6 Int} {x:Int} {K:Int->A6 (A3 Int×Int)} {R:A3 Int×Int->Prop},e=some x->(g=true->Yd R (K x))->(g=false->Yd R (K 0))->Yd R (Aa g 0 e K):=λh a b=>Yd.Aa (λhg=>⟨_,h,a hg⟩) b
   refine gO (Ad ⟨by omega,by omega⟩) (λhg=>gO (BN (by omega)) (λXR=>gO (BN (by omega)) (λhg2=>key) (λh=>by rw[hg] at h;cases h)) (λh=>by rw[hg] at h;cases h))<|λhg=>?_
   refine Yd.Aa (λh=>by rw[hg] at h;cases h) (λ_=>Yd.Aa (λh=>by rw[hg] at h;cases h)<|λ_=>?_);have hgd:(decide (hi<r)||(decide (hi=r)&&decide (lo<=(0:Int))))=(decide (hi<r)||(decide (hi=r)&&decide (lo<=u.getD k 0))):=by
    cases ha:decide (hi<r)
    ·cases hb:decide (hi=r)
     ·rfl
     ·rw[ha,hb] at hg;exact absurd hg (by decide)
    ·rfl
   dsimp only at hgd⊢;rw[hgd];exact key
  ·have hc:=Ay hc;have hc1:c=1:=by rcases h3 with h|h;exact absurd h hc;exact h
   exact fin (.inl (by rw[hc1];omega))
 rintro q ⟨hq,arU,arT⟩;refine Yd.lp (λs:A3 Int×Int×Int×Int=>okW s.1/\s.1.length=k+3/\(s.2.1=0\/s.2.1=1)/\(0<=s.2.2.1/\s.2.2.1<BB)/\0<=s.2.2.2/\s.2.2.2<=(k+2:Nat)/\(∀m,s.2.2.2.toNat<=m->s.1.getD m 0=u.getD m 0)/\
   AH (u.take s.2.2.2.toNat)-q*AH (v.take s.2.2.2.toNat)=AH (s.1.take s.2.2.2.toNat)-Am s.2.2.2.toNat*(s.2.2.1+s.2.1))
  (λs:A3 Int×Int×Int×Int=>k+2-s.2.2.2.toNat) ?_ _ _ ⟨hu,Lf,.inl rfl,⟨by dsimp only;omega,by dsimp only;unfold BB;omega⟩,by dsimp only;omega,by dsimp only;omega,λ_ _=>rfl,by simp[AH]⟩ (by dsimp only;omega)
 rintro next ⟨p,b,c,i⟩ ⟨h1,h2,h3,h4,h5,h6,h7,h8⟩ hn
 dsimp only at h1 h2 h3 h4 h5 h6 h7 h8 hn⊢;obtain⟨n,rfl⟩:=ER h5;simp only[CA,M7] at*;refine Yd.cond (λhc=>?_)<|λhc=>?_
 ·have hc:=AZ hc;obtain⟨hi,lo,m1,m2,m3,m4,m5,m6⟩:=fD hq<|FI hv n
  obtain⟨z,d,a1,a2,a3,a4,a5⟩:=Vq (X:=lo) (Y:=c) (c:=0) ⟨m4,m5⟩ h4<| .inl rfl
  obtain⟨y,b',b1,b2,b3,b4,b5⟩:=nV (X:=p.getD n 0) (Y:=z) (c:=b) (FI h1 n) ⟨a2,a3⟩ h3;refine Yd.bd (BN (by omega)) (Yd.bd m1 (Yd.bd a1 (Yd.bd (BN (by omega)) (Yd.bd (BN (by omega)) (Yd.bd b1 (Yd.bd (BN (by omega)) (Yd.bd (BN (by omega)) (Yd.bd (Ad ⟨by omega,by omega⟩) ?_))))))));have ew:wr .u64 (hi+d)=hi+d:=IE ⟨by omega,by unfold BB at*;omega⟩;dsimp only;rw[ew];refine hn _ ⟨Ju h1 _ ⟨b2,b3⟩,by simpa using h2,b4,⟨by dsimp only;omega,by dsimp only;unfold BB at*;omega⟩,by dsimp only;omega,by dsimp only;omega,?_,?_⟩ (by dsimp only;omega)
  ·intro m hm;dsimp only at hm⊢;rw[getD_set_ne (by omega)];exact h7 m (by omega)
  ·simp only[toNat_succ',CA];rw[En u,En v,En,Gd<|Az _,Ge (by omega),<-h7 n (Az _),Iu];have k1:q*(AH (v.take n)+Am n*v.getD n 0)=q*AH (v.take n)+Am n*(q*v.getD n 0):=by rw[BZ,F5 q]
   have k2:Am n*(p.getD n 0)-Am n*(q*v.getD n 0)-Am n*(c+b)=Am n*y-BB*Am n*(hi+d+b'):=by
    rw[D8 BB,DO,<-He,<-He,<-He]
    congr 1
    unfold BB at*;omega
   rw[k1];omega
 ·have hc:=Ay hc;have Gc:n=k+2:=by omega
  subst Gc;obtain⟨y,b',b1,b2,b3,b4,b5⟩:=nV (X:=p.getD (k+2) 0) (Y:=c) (c:=b) (FI h1 _) h4 h3;refine Yd.bd (gA h2)<|Yd.bd (gA h2)<|Yd.bd b1<|Yd.bd (gA h2)<|Yd.bd (gA h2) ?_
  simp only[CA];have okq:=Ju h1 (k+2) ⟨b2,b3⟩;have hlen:(p.set (k+2) y).length=k+3:=by rw[JP];exact h2
  have eW:AH (p.set (k+2) y)=AH (p.take<|k+2)+Am (k+2)*y:=by
   have:AH ((p.set (k+2) y).take<|k+3)=AH (p.set (k+2) y):=by rw[CB (by omega)]
   rw[<-this,En,Gd<|Az _,Ge (by omega)]
  have eU2:AH u=AH (u.take<|k+2)+Am (k+2)*p.getD (k+2) 0:=by
   have:AH (u.take<|k+3)=AH u:=by rw[CB (by omega)]
   rw[<-this,En,h7 _<|Az _]
  rw[CB (l:=v) (by omega)] at h8;have main:AH u-q*AH v=AH (p.set (k+2) y)-Am (k+3)*b':=by
   have k2:Am (k+2)*p.getD (k+2) 0-Am (k+2)*(c+b)=Am (k+2)*y-BB*Am (k+2)*b':=by
    rw[D8 BB,DO,<-He,<-He]
    congr 1
    omega
   rw[eW,eU2,show k+3=(k+2)+1 from rfl,Iu<|k+2];omega
  have bW:=G0 okq;rw[hlen] at bW
  generalize hR:p.set (k+2) y=R at*
  rw[Gg,G2] at arT;rw[Rk,G2] at arU;refine Yd.cond (λhd=>?_)<|λhd=>?_
  ·have hd:=AZ hd;have hd:b'=0:=hd;rw[hd,Ra] at main;refine Yd.mk ⟨okq,hlen,hq,?_,?_⟩
   ·dsimp only;omega
   ·dsimp only;omega
  ·have hd:=Ay hd;have hd:b'=1:=by rcases b4 with h|h;exact absurd h hd;exact h
   rw[hd,Jv] at main;have hq1:1<=q:=by
    rcases(show 1<=q\/q=0 by omega) with h|h
    ·exact h
    ·rw[h,YW] at main;omega
   refine Yd.lp (λs:A3 Int×Int×Int=>okW s.1/\s.1.length=k+3/\(s.2.1=0\/s.2.1=1)/\0<=s.2.2/\s.2.2<=(k+2:Nat)/\(∀m,s.2.2.toNat<=m->s.1.getD m 0=R.getD m 0)/\
     AH (s.1.take s.2.2.toNat)+Am s.2.2.toNat*s.2.1=AH (R.take s.2.2.toNat)+AH (v.take s.2.2.toNat))
    (λs:A3 Int×Int×Int=>k+2-s.2.2.toNat) ?_ _ _ ⟨okq,hlen,.inl rfl,by dsimp only;omega,by dsimp only;omega,λ_ _=>rfl,by simp[AH]⟩ (by dsimp only;omega)
   rintro NO ⟨t,e,j⟩ ⟨g1,g2,g3,g4,g5,g6,g7⟩ hn3;dsimp only at g1 g2 g3 g4 g5 g6 g7 hn3⊢;obtain⟨m,rfl⟩:=ER g4;simp only[CA,M7] at*;refine Yd.cond (λhf=>?_)<|λhf=>?_
   ·have hf:=AZ hf;obtain⟨z,d,a1,a2,a3,a4,a5⟩:=Vq (X:=t.getD m 0) (Y:=v.getD m 0) (c:=e) (FI g1 m) (FI hv m) g3;refine Yd.bd (BN (by omega)) (Yd.bd (BN (by omega)) (Yd.bd (BN (by omega)) (Yd.bd a1 (Yd.bd (BN (by omega)) (Yd.bd (BN (by omega)) (Yd.bd (Ad ⟨by omega,by omega⟩) ?_))))));refine hn3 _ ⟨Ju g1 _ ⟨a2,a3⟩,by simpa using g2,a4,by dsimp only;omega,by dsimp only;omega,?_,?_⟩ (by dsimp only;omega)
    ·intro m' hm;dsimp only at hm⊢;rw[getD_set_ne (by omega)];exact g6 m' (by omega)
    ·simp only[toNat_succ',CA];rw[En R,En v,En,Gd<|Az _,Ge (by omega),<-g6 m (Az _),Iu];have k2:Am m*t.getD m 0+Am m*v.getD m 0+Am m*e=Am m*z+BB*Am m*d:=by
      rw[D8 BB,DO,<-BZ,<-BZ,<-BZ]
      congr 1
     omega
   ·have hf:=Ay hf;have Jl:m=k+2:=by omega
    subst Jl;have hT:=FI g1<|k+2
    refine Yd.bd (gA g2)<|Yd.bd (gA g2)<|Yd.bd (gA g2)<|Yd.bd (gA g2)<|Yd.mk ?_
    have ew:wr .u64 (q-1)=q-1:=IE ⟨by omega,by omega⟩;have ew2:wr .u64 (t.getD (k+2) 0+e)=(t.getD (k+2) 0+e)%BB:=wrW _;rw[ew,ew2];have hm0:=LI (t.getD (k+2) 0+e) (show BB≠0 by unfold BB;omega);have hm1:=Kj (t.getD (k+2) 0+e) (show 0<BB by unfold BB;omega);have hdm:=OB (t.getD (k+2) 0+e) BB;have ht0:(t.getD (k+2) 0+e)/BB=0\/(t.getD (k+2) 0+e)/BB=1:=by unfold BB at*;omega
    generalize hM:(t.getD (k+2) 0+e)%BB=M at*
    generalize hT':(t.getD (k+2) 0+e)/BB=T at*
    have okz:=Ju g1 (k+2) ⟨hm0,hm1⟩;have hlz:(t.set (k+2) M).length=k+3:=by rw[JP];exact g2
    have eZ:AH (t.set (k+2) M)=AH (t.take<|k+2)+Am (k+2)*M:=by
     have:AH ((t.set (k+2) M).take<|k+3)=AH (t.set (k+2) M):=by rw[CB (by omega)]
     rw[<-this,En,Gd<|Az _,Ge (by omega)]
    have eR:AH R=AH (R.take<|k+2)+Am (k+2)*t.getD (k+2) 0:=by
     have:AH (R.take<|k+3)=AH R:=by rw[CB (by omega)]
     rw[<-this,En,g6 _<|Az _]
    rw[CB (l:=v) (by omega)] at g7;have bZ:=G0 okz;rw[hlz] at bZ;have sum:AH (t.set (k+2) M)+Am (k+3)*T=AH R+AH v:=by
     have k2:Am (k+2)*t.getD (k+2) 0+Am (k+2)*e=Am (k+2)*M+BB*Am (k+2)*T:=by
      rw[D8 BB,DO,<-BZ,<-BZ,hdm]
     rw[eZ,eR,show k+3=(k+2)+1 from rfl,Iu<|k+2];omega
    have hpp:Am (k+2)<=Am (k+3):=dc (by omega);have hT1:T=1:=by
     rcases ht0 with h|h
     ·rw[h,Ra] at sum;omega
     ·exact h
    rw[hT1,Jv] at sum;refine⟨okz,hlz,⟨by dsimp only;omega,by dsimp only;omega⟩,?_,?_⟩
    ·dsimp only;rw[Rk,G2];omega
    ·dsimp only;omega
def Xf{A B:Int}(h:A=q*B+r)(h0:0<=r)(h1:r<B):q=A/B/\r=A%B:=by
 have hB:B≠0:=by omega
 subst h;constructor
 ·rw[Int.add_comm,Int.add_mul_ediv_right _ _ hB,Int.ediv_eq_zero_of_lt h0 h1];omega
 ·rw[Int.add_comm,Int.add_mul_emod_self_right,TW h0 h1]
def Nk(h:n<l.length):l.drop n=l.getD n 0::l.drop (n+1):=by
 rw[Rq h]
 congr 1
 simp[Eo,h]
def bT(h:n<l.length)(x:Int):(l.set n x).drop n=x::l.drop (n+1):=by
 rw[Nk (by rw[JP];exact h),Ge h,fg (by omega)]
def ae9{w:A3 Int}(hb:okW b)(hbl:b.length=k+2)(hs:s<=63)(h1:BB<=2*(b.getD (k+1) 0*2^s))(h2:b.getD (k+1) 0*2^s<BB)
 (hw:Norm w)(hv:AH w=AH b*2^s):w.length=k+2/\BB<=2*w.getD (k+1) 0/\AH w<Am (k+2)/\Am (k+1)*2^s<=AH w:=by
 have ps:=two_pos s;have hP:=L7<|k+1
 have Hs:AH b=AH (b.take<|k+1)+Am (k+1)*b.getD (k+1) 0:=by
  have:AH (b.take<|k+2)=AH b:=by rw[CB (by omega)]
  rw[<-this,En]
 obtain⟨t0,t1⟩:=G0<|Lt hb<|k+1
 rw[DI,Dt (by omega)] at t1;have aau:=we (s:=s) (lo:=b.getD (k+1) 0*2^s) (by omega) (Int.mul_emod_left _ _) h2;have hb0:=FI hb<|k+1
 have hbt:1<=b.getD (k+1) 0:=by
  rcases(show 1<=b.getD (k+1) 0\/b.getD (k+1) 0=0 by omega) with h|h
  ·exact h
  ·rw[h,YW] at h1;unfold BB at h1;omega
 generalize b.getD (k+1) 0=t at*
 generalize AH (b.take<|k+1)=L at*
 have e:AH w=L*2^s+Am (k+1)*(t*2^s):=by rw[hv,Hs,Gg,DO]
 have hL0:0<=L*2^s:=Kd t0<|Ds ps
 have hL1:L*2^s<Am (k+1)*2^s:=Int.mul_lt_mul_of_pos_right t1 ps;have hg2:=ET aau<|Ds hP
 rw[BZ] at hg2;have e3:Am (k+2)=Am (k+1)*BB:=by rw[Iu<|k+1,D8]
 have hlt:AH w<Am (k+2):=by rw[e,e3];omega
 have Tz:Am (k+1)*2^s<=AH w:=by
  have h3:Am (k+1)*(1*2^s)<=Am (k+1)*(t*2^s):=ET (M8 hbt<|Ds ps)<|Ds hP
  rw[G2] at h3;omega
 have aol:w.length<=k+2:=hw.len hlt;have To:k+1<w.length:=by
  rcases Gh (k+1) w.length with h|h
  ·exact h
  ·have h5:=(G0 hw.1).2;have h6:=dc h;have h7:Am (k+1)*1<=Am (k+1)*2^s:=ET (by omega)<|Ds hP
   omega
 refine⟨by omega,?_,hlt,Tz⟩;have hlen:w.length=k+2:=by omega
 have hsw:AH w=AH (w.take<|k+1)+Am (k+1)*w.getD (k+1) 0:=by
  have:AH (w.take<|k+2)=AH w:=by rw[CB (by omega)]
  rw[<-this,En]
 obtain⟨q0,q1⟩:=G0<|Lt hw.1<|k+1
 rw[DI,Dt (by omega)] at q1
 generalize w.getD (k+1) 0=z at*
 rcases(show BB<=2*z\/2*(z+1)<=BB by unfold BB;omega) with h|h
 ·exact h
 ·exfalso;have h8:Am (k+1)*(2*(z+1))<=Am (k+1)*(2*(t*2^s)):=ET (by omega)<|Ds hP
  rw[F5,F5 _ 2,BZ,Jv] at h8;omega
def ajt(h:okW l)(n:Nat):AH (l.take n)<=AH l:=by
 rcases Gh n l.length with h1|h1
 ·rw[R3 l n (by omega)];have:=Kd (Ds<|L7 n) (G0<|RI h n).1;omega
 ·rw[CB h1];exact Int.le_refl _
def drop_zero(h:okW l)(hl:n<=l.length)(hv:AH l<Am n):AH (l.drop n)=0:=by
 have h1:=R3 l n hl;have h2:=(G0<|RI h n).1;have h3:=(G0<|Lt h n).1;rcases(show AH (l.drop n)=0\/1<=AH (l.drop n) by omega) with h4|h4
 ·exact h4
 ·have:=ET h4 (Ds<|L7 n);omega
def afT(Lg:0<s)(hs:s<=63)(hx:0<=x/\x<BB)(hy:0<=y/\y<BB):
  ∃lo:Int,MF .u64 y ((64-s:Nat):Int)=some lo/\0<=G4 .or .u64 (x/2^s) lo/\G4 .or .u64 (x/2^s) lo<BB/\G4 .or .u64 (x/2^s) lo*2^s=x-x%2^s+BB*(y%2^s):=by
 have h2:=XE (s:=s) (by omega);have p1:=two_pos s;have p2:=two_pos<|64-s
 have r0:=LI y (show(2:Int)^s≠0 by omega);have r1:=Kj y p1;have elo:y*2^(64-s)%BB=2^(64-s)*(y%2^s):=by
  rw[<-h2,D8 y,D8<|2^s,Int.mul_emod_mul_of_pos _ _ p2]
 refine⟨2^(64-s)*(y%2^s),by rw[iY (by omega),elo],?_⟩;have l0:0<=2^(64-s)*(y%2^s):=Kd (Ds p2) r0;have d0:0<=x/2^s:=Ke hx.1<|Ds p1
 have d1:x/2^s<2^(64-s):=by
  refine Yn p1 ?_;rw[D8,h2];exact hx.2
 have hl:2^(64-s)*(y%2^s)+2^(64-s)<=BB:=by
  have:=ET (show y%2^s+1<=2^s by omega)<|Ds p2
  rw[BZ,Jv,D8 _<|2^s,h2] at this;exact this
 rw[xS (s:=64-s) l0 d0 d1 (Int.mul_emod_right _ _) (by omega)];refine⟨by omega,by omega,?_⟩;have e:=OB x<|2^s
 rw[Gg,fY,D8<|2^(64-s),h2,D8<|x/2^s];omega
def uX(ha:Norm a)(hb:Norm b)(h0:b≠[])(hla:a.length<2199023255552)(hlb:b.length<2199023255552):
  Yd (λr=>(Norm r.1/\AH r.1=AH a/AH b)/\Norm r.2/\AH r.2=AH a%AH b) (XX a b):=by
 unfold XX;have hbl:0<b.length:=by cases b;exact absurd rfl h0;simp
 have ha0:=(G0 ha.1).1;refine Yd.Ak (rV ha hb (by omega) (by omega)) λc hc=>?_
 refine Yd.cond (λhlt=>?_)<|λhlt=>?_
 ·have hlt:=AZ hlt;have hv:AH a<AH b:=by rcases hc with h|h|h<;>omega
  exact Yd.mk ⟨⟨Norm.nil,by rw[Int.ediv_eq_zero_of_lt ha0 hv];rfl⟩,ha,by rw[TW ha0 hv]⟩
 have hlt:=Ay hlt;have hv:AH b<=AH a:=by rcases hc with h|h|h<;>omega
 have atf:b.length<=a.length:=by
  rcases Gh a.length b.length with h|h
  ·have:=Xg ha.1 hb h;omega
  ·exact h
 refine Yd.cond (λh1=>?_)<|λh1=>?_
 ·
  have h1:=AZ h1;have hl1:b.length=1:=by omega
  obtain⟨y,rfl⟩:∃y,b=[y]:=by
   cases b with
   |nil=>cases hl1
   |cons x t=>cases t with
    |nil=>exact⟨x,rfl⟩
    |cons _ _=>simp at hl1
  have hy:0<y/\y<BB:=by
   have:=Ou.1 hb.1;have h2:y≠0:=λe=>hb.2 (by rw[e];rfl)
   omega
  have eV:AH [y]=y:=by simp[AH]
  rw[eV] at hv⊢;refine Yd.bd (PO (by omega) (by omega) (by omega)) (Yd.bd (Ad ⟨by omega,by omega⟩) ?_);refine Yd.lp (λs:A3 Int×Int×Int=>okW s.1/\s.1.length=a.length/\(0<=s.2.1/\s.2.1<y)/\ -1<=s.2.2/\s.2.2<a.length/\AH (a.drop (s.2.2+1).toNat)=AH (s.1.drop (s.2.2+1).toNat)*y+s.2.1)
   (λs:A3 Int×Int×Int=>(s.2.2+1).toNat) ?_ _ _ ⟨UY _,by simp only[NJ];omega,⟨by dsimp only;omega,by dsimp only;omega⟩,by dsimp only;omega,by dsimp only;omega,?_⟩ (by dsimp only;omega)
  rotate_left
  ·have:((a.length:Int)-1+1).toNat=a.length:=by omega
   dsimp only;rw[this,Ri,MZ (by simp)];simp[AH]
  rintro next ⟨o,r,i⟩ ⟨g1,g2,g3,g4,g5,g6⟩ hn
  dsimp only at g1 g2 g3 g4 g5 g6 hn⊢;refine Yd.cond (λhp=>?_)<|λhp=>?_
  ·have hp:=AZ hp;obtain⟨n,rfl⟩:=ER hp;simp only[toNat_succ',CA,M7] at*;refine Yd.bd (BN (by omega))<|Yd.bd (show A8 [y] 0=some y from rfl) ?_
   refine Yd.Ak (vi g3 (FI ha.1 n) hy.2) ?_;rintro⟨q,z⟩ ⟨d1,d2,d3⟩;dsimp only at d1 d2 d3⊢;refine Yd.bd (BN (by omega)) (Yd.bd (BN (by omega)) (Yd.bd (Ad ⟨by omega,by omega⟩) ?_));refine hn _ ⟨Ju g1 _ d1,by simpa using g2,d2,by dsimp only;omega,by dsimp only;omega,?_⟩ (by dsimp only;omega);have e:(((n:Nat):Int)-1+1).toNat=n:=by omega
   simp only[e];rw[Nk (by omega),bT (by omega),Mw,Mw,g6,Gg,BZ,DO,D8 BB r];omega
  ·have hp:=Ay hp;have hi:i= -1:=by omega
   subst hi;have g6:AH a=AH o*y+r:=g6;refine Yd.Ak (RL g1 (by omega)) λw ⟨w1,w2,_⟩=>?_
   refine Yd.Ak (RL (a:=[r]) (Ou.2 ⟨⟨g3.1,by omega⟩,YN⟩) (by simp)) λz ⟨z1,z2,_⟩=>?_
   have er:AH [r]=r:=by simp[AH]
   obtain⟨u1,u2⟩:=Xf g6 g3.1 g3.2;exact Yd.mk ⟨⟨w1,by dsimp only;rw[w2,u1]⟩,z1,by dsimp only;rw[z2,er,u2]⟩
 ·
  have h1:=Ay h1;obtain⟨k,hk⟩:∃k,b.length=k+2:=⟨b.length-2,by omega⟩;have hbt:0<b.getD (k+1) 0:=by
   have h3:=(FI hb.1<|k+1).1;rcases(show 0<b.getD (k+1) 0\/b.getD (k+1) 0=0 by omega) with h|h
   ·exact h
   ·refine absurd ?_ hb.2;rw[List.getLast?_eq_getElem?,show b.length-1=k+1 from by omega];rw[Eo] at h;rw[Fe (by omega)] at h⊢;simpa using h
  obtain⟨s,l1,l2,l3,l4⟩:=zL hbt (FI hb.1<|k+1).2;have e1:((b.length:Int)-1)=((k+1:Nat):Int):=by omega
  rw[e1];refine Yd.bd (Ad ⟨by omega,by omega⟩) (Yd.bd (BN (by omega))<|Yd.bd l1 ?_);refine Yd.Ak (tj hb.1 l2 (by omega)) λw0 ⟨p1,p2,p3⟩=>?_
  refine Yd.Ak (RL p1 (by omega)) λv ⟨v1,v2,_⟩=>?_
  rw[p3] at v2;obtain⟨v3,v4,v5,v6⟩:=ae9 hb.1 hk l2 l3 l4 v1 v2;refine Yd.Ak (tj ha.1 l2 (by omega)) λu0 ⟨q1,q2,q3⟩=>?_
  obtain⟨d,hd⟩:∃d,a.length=d+(k+2):=⟨a.length-(k+2),by omega⟩;have e2:((a.length:Int)-(v.length:Int))=((d:Nat):Int):=by omega
  rw[e2,v3];refine Yd.bd (Ad ⟨by omega,by omega⟩) (Yd.bd (Ad ⟨by omega,by omega⟩) (Yd.bd (PO (by omega) (by omega) (by omega)) (Yd.bd (Ad ⟨by omega,by omega⟩) ?_)));have ps:=two_pos s;have hV0:0<AH v:=by
   have:=Int.mul_pos (L7<|k+1) ps;omega
  refine Yd.lp (λt:A3 Int×A3 Int×Int=>okW t.1/\t.1.length=a.length+1/\okW t.2.1/\t.2.1.length=d+1/\ -1<=t.2.2/\t.2.2<=d/\AH (t.1.drop (t.2.2+1).toNat)<AH v/\
    AH a*2^s=AH v*(Am (t.2.2+1).toNat*AH (t.2.1.drop (t.2.2+1).toNat))+AH t.1)
   (λt:A3 Int×A3 Int×Int=>(t.2.2+1).toNat) ?_ _ _ ⟨q1,q2,UY _,by simp only[NJ];omega,by dsimp only;omega,by dsimp only;omega,?_,?_⟩ (by dsimp only;omega)
  rotate_left
  ·dsimp only;rw[toNat_succ'];have h3:=R3 u0 (d+1) (by omega);have h4:=(G0<|Lt q1<|d+1).1;rw[q3] at h3;have h5:=(G0 ha.1).2;have h6:AH a*2^s<Am a.length*2^s:=Int.mul_lt_mul_of_pos_right h5 ps;rw[hd,show d+(k+2)=(d+1)+(k+1) from by omega,eQ,DO] at h6;have h7:AH (u0.drop<|d+1)<Am (k+1)*2^s:=by
    rcases(show AH (u0.drop<|d+1)<Am (k+1)*2^s\/Am (k+1)*2^s<=AH (u0.drop<|d+1) by omega) with h|h
    ·exact h
    ·have:=ET h (Ds<|L7<|d+1);omega
   omega
  ·dsimp only;rw[toNat_succ',MZ (by simp),<-q3];simp[AH]
  rintro next ⟨u,o,j⟩ ⟨g1,g2,g3,g4,g5,g6,g7,g8⟩ hn
  dsimp only at g1 g2 g3 g4 g5 g6 g7 g8 hn⊢;refine Yd.cond (λhp=>?_)<|λhp=>?_
  ·have hp:=AZ hp;obtain⟨n,rfl⟩:=ER hp;simp only[toNat_succ',CA,M7] at*;have e3:(((n:Nat):Int)+((k+2:Nat):Int))=((n+(k+2):Nat):Int):=by omega
   have e4:(((n+(k+2):Nat):Int)+1)=((n+(k+3):Nat):Int):=by omega
   have e5:(((n+(k+3):Nat):Int)-((n:Nat):Int)).toNat=k+3:=by omega
   rw[e3];refine Yd.bd (Ad ⟨by omega,by omega⟩) ?_;rw[e4];refine Yd.bd (Ad ⟨by omega,by omega⟩)<|Yd.gC ?_ ?_
   ·rw[Ab (show(0:Int)<=(n:Int) by omega),Ab (show((n:Nat):Int)<((n+(k+3):Nat):Int) by omega),Ab (show((n+(k+3):Nat):Int)<=(u.length:Int) by omega)]
    rfl
   rw[e5];have okd:=RI g1 n;have hdl:(u.drop n).length=a.length+1-n:=by rw[H9,g2]
   have hw:((u.drop n).take<|k+3).length=k+3:=by rw[DI];omega
   have hdn:u.drop n=u.getD n 0::u.drop (n+1):=Nk (by omega);have hun:=FI g1 n;have Tz:AH ((u.drop n).take<|k+3)<BB*AH v:=by
    rw[hdn,show k+3=(k+2)+1 from rfl,fh,Mw];have h3:=ajt (RI g1<|n+1)<|k+2
    unfold BB at*;omega
   have pS:AH (u.drop<|n+(k+3))=0:=by
    have:=drop_zero (RI g1<|n+1) (n:=k+2) (by rw[H9];omega) (by omega);rw[F4] at this;rw[show n+(k+3)=n+1+(k+2) from by omega];exact this
   refine Yd.Ak (aii (k:=k) (Lt okd _) v1.1 hw v3 (by omega) v4 Tz) ?_;rintro⟨w,q⟩ ⟨s1,s2,s3,s4,s5⟩;dsimp only at s1 s2 s3 s4 s5⊢;refine Yd.gC ?_ ?_
   ·rw[s2,show Nat.blt 0 (k+3)=true from Gx (by omega),show Nat.ble (n+(k+3)) u.length=true from Gx (by omega),Nat.beq_refl]
    rfl
   refine Yd.bd (BN (by omega)) (Yd.bd (BN (by omega)) (Yd.bd (Ad ⟨by omega,by omega⟩) ?_));have okt:=Lt g1 n;have okz:=RI g1<|n+(k+3)
   have JD:(u.take n).length=n:=by rw[DI];omega
   have e7:(((n:Nat):Int)-1+1).toNat=n:=by omega
   have evu:AH u=AH (u.take n)+Am n*AH ((u.drop n).take<|k+3):=by
    rw[R3 u n (by omega),R3 (u.drop n) (k+3) (by omega),F4,pS,Ra,VH]
   have evn:AH (u.take n++w++u.drop (n+(k+3)))=AH (u.take n)+Am n*AH w:=by
    rw[Ui,Ui,pS,Ra,VH,JD]
   have edn:(u.take n++w++u.drop (n+(k+3))).drop n=w++u.drop (n+(k+3)):=by
    rw[Gw,Nw,MZ (by omega),JD];simp
   refine hn _ ⟨uW.2 ⟨uW.2 ⟨okt,s1⟩,okz⟩,?_,Ju g3 _ s3,by simpa using g4,by dsimp only;omega,by dsimp only;omega,?_,?_⟩ (by dsimp only;omega)
   ·dsimp only;rw[ES,ES,JD,s2,H9,g2];omega
   ·dsimp only;rw[e7,edn,Ui,pS,Ra,VH];exact s5
   ·dsimp only;rw[e7,evn,bT (by omega),Mw,g8,evu,s4,Iu];have k1:AH v*(Am n*(q+BB*AH (o.drop<|n+1)))=Am n*(q*AH v)+AH v*(BB*Am n*AH (o.drop<|n+1)):=by
     rw[BZ,BZ,F5<|AH v,D8 (AH v) q,F5 (Am n) BB,DO BB]
    rw[k1,BZ];omega
  ·have hp:=Ay hp;have hj:j= -1:=by omega
   subst hj;have g7:AH u<AH v:=g7;have g8:AH a*2^s=AH v*(Am 0*AH o)+AH u:=g8;rw[Y1,G2] at g8;have hu0:0<=AH u:=(G0 g1).1;have hue:AH u=2^s*(AH a-AH b*AH o):=by
    rw[He,D8 _<|AH a,g8,v2,D8<|AH b,DO];omega
   have ap5:∃c:Int,BB=2^s*c:=⟨_,(XE (s:=s) (by omega)).symm⟩;have arK:u.getD 0 0%2^s=0:=by
    obtain⟨c,hc⟩:=ap5;have h3:u=u.getD 0 0::u.drop 1:=Nk (n:=0) (l:=u) (by omega);have h4:AH u=u.getD 0 0+BB*AH (u.drop 1):=by rw[<-Mw,<-h3]
    have h5:u.getD 0 0=2^s*(AH a-AH b*AH o-c*AH (u.drop 1)):=by
     rw[He,<-hue,<-DO,<-hc];omega
    rw[h5,Int.mul_emod_right]
   refine Yd.lp (λt:A3 Int×Int=>okW t.1/\t.1.length=a.length+1/\0<=t.2/\t.2<=(k+2:Nat)/\(∀m,t.2.toNat<=m->t.1.getD m 0=u.getD m 0)/\
     AH (t.1.take t.2.toNat)*2^s=AH (u.take t.2.toNat)+Am t.2.toNat*(u.getD t.2.toNat 0%2^s))
    (λt:A3 Int×Int=>k+2-t.2.toNat) ?_ _ _ ⟨g1,g2,by dsimp only;omega,by dsimp only;omega,λ_ _=>rfl,?_⟩ (by dsimp only;omega)
   rotate_left
   ·show AH (u.take 0)*2^s=AH (u.take 0)+Am 0*(u.getD 0 0%2^s);rw[arK];simp[AH]
   rintro FN ⟨r,i⟩ ⟨f1,f2,f3,f4,f5,f6⟩ Io;dsimp only at f1 f2 f3 f4 f5 f6 Io⊢;obtain⟨m,rfl⟩:=ER f3;simp only[CA,M7] at*;refine Yd.cond (λhf=>?_)<|λhf=>?_
   ·have hf:=AZ hf;refine Yd.jn (λz:A3 Int=>okW z/\z.length=a.length+1/\(∀x,m+1<=x->z.getD x 0=u.getD x 0)/\AH (z.take<|m+1)*2^s=AH (u.take<|m+1)+Am (m+1)*(u.getD (m+1) 0%2^s)) ?_ ?_
    ·rintro z ⟨z1,z2,z3,z4⟩;refine Yd.bd (Ad ⟨by omega,by omega⟩) (Io _ ⟨z1,z2,by dsimp only;omega,by dsimp only;omega,?_⟩ (by dsimp only;omega));dsimp only;rw[toNat_succ'];exact⟨z3,z4⟩
    ·intro k69 aar;have hx:=FI f1 m;have hx2:=FI f1<|m+1
     have Fx:0<=r.getD m 0/2^s/\r.getD m 0/2^s<BB:=⟨Ke hx.1<|Ds ps,Int.lt_of_le_of_lt (Rh _ hx.1) hx.2⟩;refine Yd.bd (BN (by omega)) (Yd.bd (BN (by omega)) (Yd.bd (iX (by omega)) (Yd.bd (BN (by omega)) (Yd.bd (BN (by omega)) ?_))));have e8:(((m:Nat):Int)+1)=((m+1:Nat):Int):=by omega
     have JW:∀z:Int,z*2^s=r.getD m 0-r.getD m 0%2^s+BB*(r.getD (m+1) 0%2^s)->(AH (r.take m)+Am m*z)*2^s=AH (u.take<|m+1)+Am (m+1)*(u.getD (m+1) 0%2^s):=by
      intro z hz;rw[<-f5 (m+1) (by omega),En u,<-f5 m (Az _),Gg,f6,DO,hz,<-f5 m (Az _),Iu,BZ,He,F5 (Am m) BB,DO BB];omega
     refine Yd.Aa (λhg=>?_)<|λhg=>?_
     ·have hg:=AZ hg;refine⟨_,Ad ⟨by omega,by omega⟩,Yd.cond (λhh=>?_)<|λhh=>?_⟩
      ·obtain⟨lo,b1,b2,b3,b4⟩:=afT (s:=s) (x:=r.getD m 0) (y:=r.getD (m+1) 0) (by omega) l2 hx hx2;have MG:(r.set m<|r.getD m 0/2^s).length=a.length+1:=by rw[JP];exact f2
       have e9:((64:Int)-(s:Int))=((64-s:Nat):Int):=by omega
       rw[e8,e9];refine Yd.bd (BN (by omega)) (Yd.bd (BN (by omega)) (Yd.bd (Ad ⟨by omega,by omega⟩) (Yd.bd (BN (by omega)) (Yd.bd (BN (by omega)) (Yd.bd (Ad ⟨by omega,by omega⟩) ?_)))));rw[getD_set_ne (show m+1≠m by omega),Ge (show m<r.length by omega)];refine Yd.bd b1 (Yd.bd (BN (by omega)) (Yd.bd (BN (by omega)) ?_));refine aar _ ⟨Ju (Ju f1 _ Fx) _ ⟨b2,b3⟩,by simpa using f2,?_,?_⟩
       ·intro x hxm;rw[getD_set_ne (by omega),getD_set_ne (by omega)];exact f5 x (by omega)
       ·rw[En,Gd<|Az _,Ge (by omega),Gd<|Az _];exact JW _ b4
      ·rw[Ab hg,JO] at hh;have:=Ay hh;simp only[JP] at this;omega
     ·have hg:=Ay hg;have Lg:s=0:=by omega
      subst Lg;refine Yd.cond (λhh=>?_)<|λhh=>?_
      ·exact absurd (AZ (DQ hh).1) hg
      ·refine aar _ ⟨Ju f1 _ Fx,by simpa using f2,?_,?_⟩
       ·intro x hxm;rw[getD_set_ne (by omega)];exact f5 x (by omega)
       ·rw[En,Gd<|Az _,Ge (by omega)];refine JW _ ?_;simp[Int.emod_one]
   ·have hf:=Ay hf;have Jl:m=k+2:=by omega
    subst Jl;have hz:=drop_zero g1 (n:=k+2) (by omega) (by omega);have hz2:u.getD (k+2) 0=0:=acp hz g1<|Az _
    have hu:AH u=AH (u.take<|k+2):=by
     rw[R3 u (k+2) (by omega),hz];omega
    rw[hz2,Int.zero_emod,Ra,VH,<-hu,hue,D8] at f6;have f7:AH (r.take<|k+2)=AH a-AH b*AH o:=Int.eq_of_mul_eq_mul_left (by omega) f6;have f8:AH (r.take<|k+2)<AH b:=by
     have h3:2^s*(AH a-AH b*AH o)<2^s*AH b:=by rw[<-hue,D8,<-v2];exact g7
     rw[f7];exact fp h3<|Ds ps
    refine Yd.Ak (RL g3 (by omega)) λx ⟨x1,x2,_⟩=>?_
    refine Yd.bd (EO (by omega) (by omega) (by omega)) ?_;refine Yd.Ak (RL (RI (Lt f1 _) _) (by rw[H9,DI];omega)) λz ⟨z1,z2,_⟩=>?_
    have z3:AH z=AH (r.take<|k+2):=z2;obtain⟨w1,w2⟩:=Xf (A:=AH a) (B:=AH b) (q:=AH o) (r:=AH<|r.take<|k+2) (by rw[f7,D8];omega) (G0<|Lt f1 _).1 f8;exact Yd.mk ⟨⟨x1,by dsimp only;rw[x2];exact w1⟩,z1,by dsimp only;rw[z3];exact w2⟩
def oH(h:2^k<=n):k<=Nat.log2 n:=by
 have h0:n≠0:=by have:=VR k;omega
 exact(Nat.le_log2 h0).2 h
def nm:∀n:Nat,Am n=((2^(64*n):Nat):Int)
 |0=>rfl
 |n+1=>by
  rw[Iu,nm n,show 64*(n+1)=64+64*n from by omega,Lx,M1];rfl
end
end Trn
