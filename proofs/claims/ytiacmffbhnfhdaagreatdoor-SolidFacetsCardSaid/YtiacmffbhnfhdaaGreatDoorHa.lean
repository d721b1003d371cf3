/-
  Part of the proof of SolidFacets.
-/
import Derived.Test.YtiacmffbhnfhdaaGreatDoorFa
import Derived.Test.YtiacmffbhnfhdaaGreatDoorMa
import Derived.Test.YtiacmffbhnfhdaaGreatDoorSa
import Derived.Shelf.SlSortCmp.NoneTotal
set_option maxRecDepth 100000
set_option maxHeartbeats 20000000
set_option linter.all false
open Go Go.RowKit Go.Proofs Go.Proofs.Tryz
namespace Trn
section
open Go.Shelf
variable[D:DR]
variable{k:Nat}{xs:A3 AR}
def chunk(k:Nat)(xs:A3 AR)(i:Nat):A3 AR:=(xs.drop<|i*k).take k
theorem TM{n:Nat}(h:xs.length=n*k){i:Nat}(hi:i<n):(chunk k xs i).length=k:=by
 have:(i+1)*k<=n*k:=J9 k hi;rw[JR,LZ] at this;simp[chunk];omega
theorem xm{n:Nat}(h:xs.length=n*k){t:Nat}(ht:t<n*k):(chunk k xs<|t/k)[t%k]? =xs[t]? :=by
 have hk:0<k:=(L2 k).elim (λe=>by subst e;simp at ht) id;have hm:=OH t hk;unfold chunk;rw[WC,if_pos hm,Tv]
 congr 1
 rw[Kt];exact Nat.div_add_mod t k
theorem ahV{ys:A3 AR}(h:ys.length=k):chunk k (ys++xs) 0=ys:=by
 simp[chunk,<-h]
theorem ahW{ys:A3 AR}(h:ys.length=k)(i:Nat):chunk k (ys++xs) (i+1)=chunk k xs i:=by
 unfold chunk;rw[JR,LZ,PG,<-h,NM];have e:List.drop (ys.length+i*ys.length) ys=[]:=List.drop_eq_nil_of_le A4;rw[e,Ii]
 congr 2;omega
end
section
open Go.Shelf
variable[D:DR]
variable{P:Program}{A:Type}{τ:A->Ty}{k:Nat}{H:HV}
theorem TH(hn:∀a,(τ a).n=k)(ha:∀a,(τ a).agg=true):∀{l:A3 A} {xs:A3 AR},DJ H (lT τ l) xs->xs.length=l.length*k/\∀i (hi:i<l.length),(τ l[i]).ok H (.agg (chunk k xs i).toArray)
 |[],xs,h=>by
  have h:xs=[]:=h;subst h;exact⟨AS,λi hi=>absurd hi<|Nat.not_lt_zero _⟩
 |a::l,xs,h=>by
  obtain⟨v,rest,e,hv,hr⟩:=h;have sh:=(τ a).shape hv;obtain⟨hl,hc⟩:=TH hn ha hr;have hs:v.cells.toList.length=k:=by rw[Ex,sh.size,hn]
  subst e;refine⟨by simp only[ED,hs,hl,Dj];rw[JR];omega,λi hi=>?_⟩;cases i with
  |zero=>
   rw[ahV hs];have e:=sh.eq;rw[ha] at e;have e:v= .agg v.cells:=e;simpa[<-e] using hv
  |succ i=>
   rw[ahW hs];exact hc i (by simpa using hi)
theorem dF:∀{l:A3 A} {xs:A3 AR},xs.length=l.length*k->(∀i (hi:i<l.length),(τ l[i]).ok H<| .agg (chunk k xs i).toArray)->DJ H (lT τ l) xs
 |[],xs,h,_=>Js (by simpa using h)
 |a::l,xs,h,hc=>by
  have hlen:xs.length=k+l.length*k:=by simpa[JR,PG] using h
  have h0:=hc 0 AS;have e0:chunk k xs 0=xs.take k:=by simp[chunk]
  rw[e0] at h0;refine⟨_,xs.drop k,?_,h0,dF (by simp[hlen]) λi hi=>?_⟩
  ·simp[Value.cells]
  ·have:=hc (i+1) (by simpa using hi);have e:chunk k xs (i+1)=chunk k (xs.drop k) i:=by
    unfold chunk;rw[FW,JR,LZ,PG]
   rwa [e] at this
end
section
open Go.Shelf
variable[D:DR]
variable{w:AQ}
theorem aa0{w':AQ}(h: @FL DR.strict w.heap.size w w'):∃q os,w'=Go.Sort.grow (w.drewN q) os:=by
 refine⟨w'.drawn-w.drawn,w'.heap.extract w.heap.size w'.heap.size,?_⟩;have hd:w.drawn+(w'.drawn-w.drawn)=w'.drawn:=by have h:w.drawn<=w'.drawn:=FL.drawn (D:=DR.strict) h;omega
 have hh:w.heap++w'.heap.extract w.heap.size w'.heap.size=w'.heap:=by
  apply Array.ext_getElem?;intro i;rw[gy];have hs:=(FL.toBelow (D:=DR.strict) h).size;split
  ·rename_i hi;exact((FL.toBelow (D:=DR.strict) h).block i hi).symm
  ·grind
 obtain⟨heap,tape,drawn,os,output⟩:=w';obtain⟨av6,av3,av2,os0,auw⟩:=w;simp only[World.drewN,Go.Sort.grow];simp only[World.mk.injEq];have hb:=FL.toBelow (D:=DR.strict) h;exact⟨hh.symm,hb.tape,hd.symm,hb.os,hb.output⟩
theorem Xj{α:Type}[Inhabited α]{enc:α->A3 AR}{k:Nat}{blk off m:Nat}{dk:B6 α}{os:B6 Obj}{r:Nat}(hr:r<w.heap.size)(hne:r≠blk):(sortWorldK enc k w blk off m dk os).heap[r]? =w.heap[r]? :=by
 unfold sortWorldK Go.Sort.grow Go.Sort.putRowK Go.Sort.putRow Go.Sort.mapBlock Go.Sort.ahead;simp only[gy,Array.size_modify,hr,if_pos,Tz];rw[if_neg<|λe=>hne e.symm]
theorem kX{α:Type}[Inhabited α]{enc:α->A3 AR}{k:Nat}{blk off m:Nat}{dk:B6 α}{os:B6 Obj}:w.heap.size<=(sortWorldK enc k w blk off m dk os).heap.size:=by
 unfold sortWorldK Go.Sort.grow Go.Sort.putRowK Go.Sort.putRow Go.Sort.mapBlock Go.Sort.ahead;simp
end
section
open Go.Shelf
variable[D:DR]
variable{P:Program}{A:Type}{τ:A->Ty}{k:Nat}{H:HV}{c:A×A->Option Int}
theorem wX(hn:∀a,(τ a).n=k)(ha:∀a,(τ a).agg=true){l:A3 A}{xs:A3 AR}{w:AQ}{blk off g:Nat}{cap:B6 AR}{FA:A3 Ty}(hxs:DJ H (lT τ l) xs)
  (sub:∀r o,H r=some o->w.heap[r]? =some o)(gl:KP P H)(hB:H blk=none)(Ql:Ee H FA cap.toList)
  (hf:∀a r,c a=some r-> @E0 DR.strict P g ([τ a.1,τ a.2]++FA) (.vs [TI .i64 r]))(cf:Fin l.length->Fin l.length->Int)(tot:∀i j,c (l[i],l[j])=some (cf i j))[Inhabited<|Fin l.length]:
  CmpLays P g cap (λi:Fin l.length=>chunk k xs i) k cf blk off l.length w:=by
 intro m os dk hdk x y;obtain⟨_,hc⟩:=TH hn ha hxs;have hs:∀r o,H r=some o->(sortWorldK (λi:Fin l.length=>chunk k xs i) k w blk off m dk os).heap[r]? =some o:=λr o h=>by
  have h1:=sub r o h;rw[Xj (lt_of_heap h1) (λe=>by rw[e,hB] at h;cases h)];exact h1
 have hr:=E0.run (D:=DR.strict) (hf (l[x],l[y]) _<|tot x y) _ H ([Value.agg (chunk k xs x).toArray,Value.agg (chunk k xs y).toArray]++cap.toList) hs gl<|YP ⟨_,_,rfl,hc x x.2,_,_,rfl,hc y y.2,rfl⟩ Ql
 have ea:([Value.agg (chunk k xs x).toArray,Value.agg (chunk k xs y).toArray]++cap.toList).toArray= #[Value.agg (chunk k xs x).toArray,Value.agg (chunk k xs y).toArray]++cap:=AS;rw[ea] at hr;refine hr.mono ?_;rintro e w' ⟨v,rfl,hb,H',_,_,hv⟩;have hv:v= .int .i64 (cf x y):=hv;subst hv;exact⟨rfl,aa0 hb⟩
end
section
open Go.Shelf
variable[D:DR]
variable{α:Type}{k:Nat}{cur:B6 AR}
theorem nG[Inhabited α]{enc:α->A3 AR}(hk:∀x,(enc x).length=k){d:B6 α}{i:Nat}(hi:i<d.size):chunk k (Go.Sort.flatK enc k d).toList i=enc d[i]! :=by
 have hb:i*k+k<=d.size*k:=by
  have:=J9 k<|show i+1<=d.size from hi
  rwa [JR,LZ] at this
 apply WA;intro t;unfold chunk;rw[WC];by_cases ht:t<k
 ·rw[if_pos ht,Tv,PX];have hlt:i*k+t<d.size*k:=A4;have e1:(i*k+t)/k=i:=by rw[Kt,Nat.mul_add_div A4,Nat.div_eq_of_lt ht,Tk]
  have e2:(i*k+t)%k=t:=by rw[Kt,Nat.mul_add_mod,S1 ht]
  have hl:=hk d[i]!;unfold Go.Sort.flatK;rw[Array.getElem?_map,Array.getElem?_range,if_pos hlt,Rx,e1,e2,Jo (enc d[i]!) t A4,Gy A4]
 ·grind
theorem vF{n:Nat}{xs:A3 AR}{w:AQ}{blk:Nat}{E:Ah}[Inhabited<|Fin n](hl:xs.length=n*k)(hb:w.heap[blk]? =some (.cells cur E (0,0)))(ht:cur.toList.take (n*k)=xs):
  Go.Sort.HoldsK (λi:Fin n=>chunk k xs i) k w blk 0 (Array.ofFn λi:Fin n=>i):=by
 unfold Go.Sort.HoldsK Go.Sort.Holds;intro j hj;rw[Go.Sort.size_flatK,W0] at hj;have Lm:cur[j]? =xs[j]? :=AY;have hk:0<k:=(L2 k).elim (λe=>by subst e;simp at hj) id;have hi:j/k<n:=Nat.div_lt_of_lt_mul (by rw[Kt];exact hj);refine⟨?_,by simp[World.frozen?,hb]⟩;rw[Go.Sort.get_flatK _ _ _ _ (by simpa using hj),PH];rw[ZI hb,Lm];have e1:(Array.ofFn λi:Fin n=>i)[j/k]! =⟨j/k,hi⟩:=by rw[Jo (Array.ofFn λi:Fin n=>i) (j/k) (by simpa using hi)];simp
 rw[e1];have hg:=xm hl hj;have hlt:j%k<(chunk k xs<|j/k).length:=AY;show xs[j]? =some (id (chunk k xs<|j/k)[j%k]!);rw[<-hg,Jo (chunk k xs<|j/k) (j%k) hlt,Gy hlt];rfl
theorem tK[Inhabited α]{enc:α->A3 AR}{w:AQ}{blk m:Nat}{dk:B6 α}{os:B6 Obj}{E:Ah}{fr:Nat×Nat}(hb:w.heap[blk]? =some (.cells cur E fr)):
  (sortWorldK enc k w blk 0 m dk os).heap[blk]? =some (.cells (Go.Sort.putCells id 0 (Go.Sort.flatK enc k dk) cur) E fr):=by
 unfold sortWorldK Go.Sort.grow Go.Sort.putRowK Go.Sort.putRow Go.Sort.mapBlock Go.Sort.ahead;simp only[gy,Array.size_modify,lt_of_heap hb,if_pos,Tz,hb,Rx]
 rfl
theorem ui[Inhabited α]{d:B6 AR}(h:d.size<=cur.size):(Go.Sort.putCells id 0 d cur).toList.take d.size=d.toList:=by
 apply WA;intro i;rw[WC];split
 ·rename_i hi;rw[PX,PX];unfold Go.Sort.putCells;rw[Array.getElem?_mapIdx,iB (by omega:i<cur.size),Rx,if_pos ⟨FM _,A4⟩,Nat.sub_zero,iB hi,Jo d i hi];rfl
 ·grind
end
section
open Go.Shelf
variable[D:DR]
variable{P:Program}{ρ:Ren}{A:Type}[DecidableEq A]{τ:A->Ty}{k:Nat}{c:A×A->Option Int}
variable{l r:A3 A}
theorem ain{α:Type}{l:A3 α}{d:B6 (Fin l.length)}(h:d.toList.Perm (Array.ofFn λi:Fin l.length=>i).toList):(d.toList.map λi=>l[i]).Perm l:=by
 have h1:=h.map λi:Fin l.length=>l[i]
 have e:(Array.ofFn λi:Fin l.length=>i).toList.map (λi:Fin l.length=>l[i])=l:=by
  rw[Array.toList_ofFn,List.map_ofFn];exact List.ofFn_getElem
 rwa [e] at h1
theorem xF(hm:Hn l c=some r)[Inhabited<|Fin l.length]{cf:Fin l.length->Fin l.length->Int}(tot:∀i j,c (l[i],l[j])=some (cf i j)){d:B6 (Fin l.length)}
 (hp:Go.Sort.PermIn 0 l.length (Array.ofFn λi:Fin l.length=>i) d)(hs:Go.Sort.SortedIn (ltOf cf) 0 l.length d):d.size=l.length/\(d.toList.map λi=>l[i])=r:=by
 obtain⟨h1,h2,_,_⟩:=YG hm;obtain⟨hz,_,Wq⟩:=hp;rw[W0] at hz;have e1:d.extract 0 d.size=d:=Array.extract_size;rw[hz] at e1;have e2:(Array.ofFn λi:Fin l.length=>i).extract 0 l.length=Array.ofFn λi:Fin l.length=>i:=by
  have h:(Array.ofFn λi:Fin l.length=>i).extract 0 (Array.ofFn λi:Fin l.length=>i).size=Array.ofFn λi:Fin l.length=>i:=Array.extract_size
  rwa [W0] at h
 rw[e1,e2] at Wq;have Jg:=ain Wq;refine⟨hz,xE h2 (Jg.trans h1.symm) ?_⟩;refine iC.2 λi j hi hj LJ=>?_
 simp only[Bp,Ex] at hi hj;have hlt:=hs i j (FM _) LJ A4;rw[Jo d j hj,Jo d i hi] at hlt;simp only[List.getElem_map,Array.getElem_toList];have hn: ¬cf d[j] d[i]<0:=by simpa[ltOf] using hlt
 have mem:∀i:Fin l.length,l[i]∈r:=λi=>h1.mem_iff.2<|L0 _
 have:=mt (fL h2 (mem d[j]) (mem d[i])<|tot d[j] d[i]).2 hn;omega
theorem yA(hm:Hn l c=some r){cf:Fin l.length->Fin l.length->Int}(tot:∀i j,c (l[i],l[j])=some (cf i j)):Go.Sort.SWO (ltOf cf):=by
 obtain⟨h1,h2,_,_⟩:=YG hm;have mem:∀i:Fin l.length,l[i]∈r:=λi=>h1.mem_iff.2<|L0 _
 have key:∀i j,ltOf cf i j=decide (r.idxOf l[i]<r.idxOf l[j]):=λi j=>by
  unfold ltOf;exact Gf.2<|fL h2 (mem i) (mem j)<|tot i j
 refine⟨λx=>?_,λx y z h1 h2=>?_,λx y z h1 h2=>?_⟩
 ·rw[key];simp
 ·grind
 ·grind
theorem ajs(hn:∀a,(τ a).n=k)(ha:∀a,(τ a).agg=true){xs:A3 AR}{H:HV}{w:AQ}{blk Eo:Nat}{cur:B6 AR}{E:Ah}{B:Ae P}(sub:∀r o,H r=some o->w.heap[r]? =some o)(As:DJ H (lT τ l) xs)
 (hown:∀b,Value.ownBlock (.slice (some ⟨blk,0,none⟩) l.length Eo)=some b->H b=none/\B.EI b)(hblk:w.heap[blk]? =some (.cells cur E (0,0)))(hnc:l.length<=Eo)(hcm:Eo<=maxLen)(hcs:cur.size=Eo*k)[Inhabited<|Fin l.length]
 {d':B6 (Fin l.length)}(hdz:d'.size=l.length)(hdr:(d'.toList.map λi=>l[i])=r)(m:Nat)(os:B6 Obj):
  Qn (λb=>Value.ownBlock (.slice (some ⟨blk,0,none⟩) l.length Eo)=some b) w H (sortWorldK (λi:Fin l.length=>chunk k xs i) k w blk 0 m d' os) H/\KQ B (sortWorldK (λi:Fin l.length=>chunk k xs i) k w blk 0 m d' os) H E k (lT τ r) (.slice (some ⟨blk,0,none⟩) l.length Eo):=by
 obtain⟨GR,KD⟩:=TH hn ha As;have hrl:r.length=l.length:=AY;have He:=tK (enc:=λi:Fin l.length=>chunk k xs i) (k:=k) (m:=m) (dk:=d') (os:=os) hblk;have Ki:(Go.Sort.flatK (λi:Fin l.length=>chunk k xs i) k d').size=l.length*k:=by rw[Go.Sort.size_flatK,hdz]
 have hle:l.length*k<=cur.size:=by rw[hcs];exact J9 k hnc
 have Pg:=ui (α:=Fin l.length) (d:=Go.Sort.flatK (λi:Fin l.length=>chunk k xs i) k d') (cur:=cur) (by rw[Ki];exact hle);refine⟨Tr.LA (M:=λb=>Value.ownBlock (.slice (some ⟨blk,0,.none⟩) l.length Eo)=some b) ⟨kX,rfl,rfl,rfl,?_,λi hi hne=>Xj hi (λe=>hne (by rw[e];rfl))⟩ sub λb hb=>(hown b hb).1,
   ⟨(Go.Sort.flatK (λi:Fin l.length=>chunk k xs i) k d').toList,?_,?_,hown⟩⟩
 ·refine Gu.of ?_;show w.drawn<=(sortWorldK _ k w blk 0 m d' os).drawn;unfold sortWorldK Go.Sort.grow Go.Sort.putRowK Go.Sort.putRow Go.Sort.mapBlock Go.Sort.ahead;exact Tq _ _
 ·have UO:(lT τ r).length=l.length:=by rw[Bp,hrl]
  rw[UO];refine⟨by rw[Ex,Ki],.inr ⟨blk,Eo,_,rfl,FM _,He,hnc,hcm,?_,?_⟩⟩
  ·rw[<-hcs];simp[Go.Sort.putCells]
  ·grind
 ·refine dF (by rw[Ex,Ki,hrl]) λi hi=>?_
  have hi2:i<d'.size:=A4;rw[nG (λi=>TM GR i.2) hi2];rw[Jo d' i hi2];have e:r[i]=l[d'[i]]:=AY;rw[e];exact KD _ d'[i].2
set_option maxHeartbeats 1000000 in
theorem eP(L:SlLaysF0.n6 P ρ)(aE:∀w,(isAgg<|ρ.t 24).run P w= .ok true w)(zE:∀w,(Go.sizeOf<|ρ.t 24).run P w= .ok k w)(hc:GL P (ρ.f 6)=true)
 (hn:∀a,(τ a).n=k)(ha:∀a,(τ a).agg=true)(none:∀(p:A9 Addr) (cap:Nat) (fv:AR) (w:AQ),Calls P (ρ.f 6) #[.slice p 0 cap,fv] w λe w'=>e= .returned (.tuple #[])/\w'=w)
 (hm:Hn l c=some r):
  I9 P (ρ.f 6) [] (.buf (ρ.t 24) k<|lT τ l) (.buf (ρ.t 24) k<|lT τ r) [JL P (λx:A×A=>[τ x.1,τ x.2]) (λx:Int=>[(TI .i64) x]) c] []:=by
 obtain⟨h1,h2,h3,h4⟩:=YG hm;refine⟨hc,λw H v ps qs sub gl hp hq hs=>?_⟩;have hp:=Z1 hp;subst hp;obtain⟨fv,rfl,hfv⟩:=PD hq;obtain⟨g,cap,FA,rfl,Ql,hf⟩:=hfv;obtain⟨xs,hown,As,hH⟩:=hs;have hlen:(lT τ l).length=l.length:=Bp ..;rw[hlen] at hown;have LA:∀b,v.ownBlock=some b->H b= .none:=λb hb=>(hH b hb).1
 by_cases hl0:l=[]
 ·subst hl0;have hr:r=[]:=List.Perm.eq_nil h1;subst hr;obtain⟨p,Eo,rfl⟩:∃p Eo,v= .slice p 0 Eo:=by
   rcases hown.2 with⟨hv,_⟩|⟨g,cap,cur,hv,_⟩
   ·grind
   ·grind
  refine(none p Eo _ w).mono ?_;rintro e w' ⟨rfl,rfl⟩;exact⟨_,rfl,H,(Tr.refl _ _).LA sub LA,⟨xs,hown,As,hH⟩,λb hb=> .inl hb,#[],rfl,rfl⟩
 ·have hpos:0<l.length:=WD.2 hl0;obtain⟨blk,Eo,cur,rfl,hblk,hnc,hcm,hcs,htake⟩:∃blk Eo cur,v= .slice (some ⟨blk,0,.none⟩) l.length Eo/\w.heap[blk]? =some (.cells cur (ρ.t 24) (0,0))/\l.length<=Eo/\Eo<=maxLen/\cur.size=Eo*k/\cur.toList.take (l.length*k)=xs:=by
   rcases hown.2 with⟨_,hz⟩|⟨g,cap,cur,hv,_,r⟩
   ·omega
   ·grind
  haveI:Inhabited (Fin l.length):=⟨⟨0,hpos⟩⟩
  obtain⟨GR,KD⟩:=TH hn ha As
  let cf:Fin l.length->Fin l.length->Int:=λi j=>(c (l[i],l[j])).getD 0
  have tot:∀i j:Fin l.length,c (l[i],l[j])=some (cf i j):=λi j=>by
   obtain⟨v,hv⟩:=h3 _ (L0 i.2) _<|L0 j.2
   have hv:c (l[i],l[j])=some v:=hv;show c (l[i],l[j])=some ((c (l[i],l[j])).getD 0);rw[hv];rfl
  have hB:H blk= .none:=LA blk rfl;have UZ:=E0.can (D:=DR.strict)<|hf _ _<|tot ⟨0,hpos⟩ ⟨0,hpos⟩
  have hcmp:=wX (P:=P) (off:=0) hn ha As sub gl hB Ql hf cf tot;have hd:(Array.ofFn λi:Fin l.length=>i).size=l.length:=W0;have main:=AnyQ.slices_SortFunc L k aE zE (λi:Fin l.length=>chunk k xs i) (λi=>TM GR i.2)
   (λi u hu=>Rg As u<|Tx<|QP hu) cf (yA hm tot) g cap blk 0 Eo (Array.ofFn λi:Fin l.length=>i) w
   (λargs w=>Ow UZ args w) (by rw[hd];exact hcmp) (vF GR hblk htake) (lt_of_heap hblk) (by rw[hd];exact h4)
  rw[hd] at main;refine main.mono ?_;rintro e w' ⟨rfl,d',m,os,Wq,rL,rfl⟩;obtain⟨hdz,hdr⟩:=xF hm tot Wq rL;obtain⟨ht,hr⟩:=ajs hn ha (B:=Ae.No P w λb=>(AN.buf (ρ.t 24) k<|lT τ l).owns w (.slice (some ⟨blk,0,.none⟩) l.length Eo) b) sub As hH hblk hnc hcm hcs hdz hdr m os;exact⟨_,rfl,H,ht,hr,λb hb=> .inl hb,#[],rfl,rfl⟩
end
section
open Go.Shelf Go.Sort
variable[D:DR]
variable{n:Nat}{dk:B6 (Fin n)}{kp:Nat->Bool}{k m kk blk off:Nat}
structure Ns(n:Nat)(kp:Nat->Bool)(m kk:Nat)(dk:B6 (Fin n)):Prop where
 size:dk.size=n
 le:kk<m
 low:(dk.toList.take kk).map (·.val)=(List.range m).filter kp
 high:∀j (hj:j<n),m-1<=j->∀h:j<dk.size,dk[j]=⟨j,hj⟩
theorem Ns.len(h:Ns n kp m kk dk)(hm:m<=n):kk=((List.range m).filter kp).length:=by
 rw[<-h.low,Bp,Dn,Ex,h.size];have:=h.le;omega
theorem Ns.start(hk:k<n)(hall:∀j,j<k->kp j=true)(hn:kp k=false):Ns n kp (k+1) k (Array.ofFn λi:Fin n=>i):=by
 refine⟨AS,A4,?_,λj hj _ h=>by simp⟩;rw[List.range_succ,QN,List.filter_eq_self.2<|λj hj=>hall j<|QJ.1 hj];have e:List.filter kp [k]=[]:=by simp[hn]
 rw[e,J6,Array.toList_ofFn];apply WA;intro i;rw[Gg,WC];by_cases hi:i<k
 ·rw[if_pos hi,Gy E8,Gy (by simpa using hi)];simp
 ·rw[if_neg hi,qJ (by simpa using hi)];rfl
theorem Ns.skip(h:Ns n kp m kk dk)(hn:kp m=false):Ns n kp (m+1) kk dk:=by
 have:=h.le;refine⟨h.size,A4,?_,λj hj hm=>h.high j hj A4⟩;rw[List.range_succ,QN,<-h.low];simp[hn]
theorem Ns.E6(h:Ns n kp m kk dk)(hm:m<n)(hn:kp m=true):Ns n kp (m+1) (kk+1) (dk.setIfInBounds kk ⟨m,hm⟩):=by
 have h0:=h.le;refine⟨by simp[h.size],A4,?_,λj hj hm' h2=>?_⟩
 ·rw[List.range_succ,QN,<-h.low];have e:List.filter kp [m]=[m]:=by simp[hn]
  rw[e];have hs:=h.size;have hkk:kk<dk.toList.length:=by rw[Ex,hs];omega
  rw[iD,List.take_succ,List.take_set_of_le<|BM _,ZT hkk,Mg]
  rfl
 ·rw[Array.getElem_setIfInBounds (by simpa using h2),if_neg A4];exact h.high j hj A4 _
theorem anX{P:C7}{A:Type}{τ:A->Ty}{H:HV}{c:A×A->A9 Bool}(hn:∀a,(τ a).n=k)(ha:∀a,(τ a).agg=true){l:A3 A}{xs:A3 AR}{w:AQ}{g:Nat}{cap:B6 AR}{FA:A3 Ty}(hxs:DJ H (lT τ l) xs)
 (sub:∀r o,H r=some o->w.heap[r]? =some o)(gl:KP P H)(hB:H blk=none)(Ql:Ee H FA cap.toList)
 (hf:∀a r,c a=some r-> @E0 DR.strict P g ([τ a.1,τ a.2]++FA) (.vs [Ay r]))[Inhabited<|Fin l.length](m:Nat)(os:B6 Obj)(dk:B6 (Fin l.length))(x y:Fin l.length){b:Bool}(hb:c (l[x],l[y])=some b):
  Calls P g (#[.agg (chunk k xs x).toArray,.agg (chunk k xs y).toArray]++cap) (sortWorldK (λi:Fin l.length=>chunk k xs i) k w blk off m dk os) λe w'=>e= .returned (.bool b)/\∃q os',w'=Go.Sort.grow ((sortWorldK (λi:Fin l.length=>chunk k xs i) k w blk off m dk os).drewN q) os':=by
 obtain⟨_,hc⟩:=TH hn ha hxs;have hs:∀r o,H r=some o->(sortWorldK (λi:Fin l.length=>chunk k xs i) k w blk off m dk os).heap[r]? =some o:=λr o h=>by
  have h1:=sub r o h;rw[Xj (lt_of_heap h1) (λe=>by rw[e,hB] at h;cases h)];exact h1
 have hr:=E0.run (D:=DR.strict) (hf (l[x],l[y]) _ hb) _ H ([Value.agg (chunk k xs x).toArray,Value.agg (chunk k xs y).toArray]++cap.toList) hs gl<|YP ⟨_,_,rfl,hc x x.2,_,_,rfl,hc y y.2,rfl⟩ Ql
 have ea:([Value.agg (chunk k xs x).toArray,Value.agg (chunk k xs y).toArray]++cap.toList).toArray= #[Value.agg (chunk k xs x).toArray,Value.agg (chunk k xs y).toArray]++cap:=AS;rw[ea] at hr;refine hr.mono ?_;rintro e w' ⟨v,rfl,hb,H',_,_,hv⟩;have hv:v= .bool b:=hv;subst hv;exact⟨rfl,aa0 hb⟩
theorem uQ{cs:B6 AR}:(Builtin.zeroCells cs n).toList.length=n*cs.size:=by simp[Builtin.zeroCells]
theorem aec{cs:B6 AR}(h:∀v∈cs.toList,v.oneCell'=true):∀v∈(Builtin.zeroCells cs n).toList,v.oneCell'=true:=by
 intro v hv;unfold Builtin.zeroCells at hv;rw[Array.toList_map,Bv] at hv;obtain⟨i,hi,rfl⟩:=hv;have hi:i<n*cs.size:=by simpa using hi
 have hp:0<cs.size:=(L2 cs.size).elim (λe=>by rw[e] at hi;simp at hi) id;have hm:=OH i hp;rw[Jo cs (i%cs.size) hm];exact h _ AS
theorem ae2{P:C7}{W:AQ}{S E ty:Ah}{z:AR}{c s:Nat}{F:B6 AR}(hS:P.underlying S=some (.slice E))(hz:∀w,(zeroValue E).run P w= .ok z w)(h1:∀v∈z.cells.toList,v.oneCell'=true)(h:Holds id W blk off F)
 (hs:s+n*z.cells.size<=F.size)(hn:0<n):(Builtin.clear_ #[S] ty #[.slice (some ⟨blk,off+s,none⟩) n c]).run P W= .ok (.tuple #[]) (W.setCells blk (off+s) (Builtin.zeroCells z.cells n).toList):=by
 have Ez:=stores_of_holds P h s (Builtin.zeroCells z.cells n).toList (by rw[uQ];exact hs)<|aec h1
 obtain⟨n,rfl⟩:∃m,n=m+1:=⟨n-1,A4⟩;unfold Builtin.clear_;simp[E4,F0 hS,hz,Ez,Result.andThen]
theorem agH[Inhabited<|Fin n]{enc:Fin n->A3 AR}(hk:∀x,(enc x).length=k){i:Nat}(hi:i<dk.size)(x:Fin n):setMany (flatK enc k dk) (i*k) (enc x)=flatK enc k (dk.setIfInBounds i x):=by
 refine ext_get! AS λt ht=>?_
 have ht':t<dk.size*k:=by simpa using ht
 have k0:0<k:=(L2 k).elim (λh=>by subst h;simp at ht') id;rw[get_setMany _ _ _ t (by simpa using ht'),get_flatK _ _ _ t ht',get_flatK _ _ _ t (by simpa using ht'),hk];by_cases a:t/k=i
 ·rw[if_pos<|(blk_iff k i t k0).2 a];have m:t-i*k=t%k:=by subst a;rw[Nat.mod_eq_sub_div_mul]
  rw[m,a,Jo (dk.setIfInBounds i x) i (by simpa using hi),Array.getElem_setIfInBounds_self]
 ·rw[if_neg<|λh=>a<|(blk_iff k i t k0).1 h];have hd:t/k<dk.size:=Nat.div_lt_of_lt_mul (by rw[Kt];exact ht');rw[Jo (dk.setIfInBounds i x) (t/k) (by simpa using hd),Jo dk (t/k) hd,Array.getElem_setIfInBounds_ne _<|λe=>a e.symm]
theorem alm[Inhabited<|Fin n]{enc:Fin n->A3 AR}{w0 W:AQ}(h:SWK enc k w0 blk off dk W)(hk:∀x,(enc x).length=k)(hblk:blk<w0.heap.size){i:Nat}(hi:i<dk.size)(x:Fin n):
  SWK enc k w0 blk off (dk.setIfInBounds i x) (W.setCells blk (off+i*k)<|enc x):=by
 obtain⟨m,os,rfl⟩:=h;refine⟨m,os,?_⟩;have hb:i*k+k<=dk.size*k:=by
  have:=J9 k<|show i+1<=dk.size from hi
  rwa [JR,LZ] at this
 unfold sortWorldK;rw[setCells_grow os blk _ _ _ (by show blk<(putRowK enc k _ blk off dk).heap.size;rw[size_putRowK];exact hblk)]
 congr 1
 unfold putRowK;rw[setCells_putRow _ _ _ _ _ _ (by rw[hk,size_flatK];exact hb),agH hk hi]
end
end Trn
namespace Ol
section
open Go.Shelf Go.Lib Go.Sort
set_option maxHeartbeats 4000000 in
set_option maxRecDepth 1000000 in
theorem ahS{P:Program}(F:P.funcs[207]? =some f207)(mixed:P.follows .mixedOrders=true)(t0:P.underlying 0=prog.underlying 0)(t3:P.underlying 3=some (.int .i64))(a3:∀w,(isAgg 3).run P w= .ok false w)(z3:∀w,(Go.sizeOf 3).run P w= .ok 1 w)(v3:∀w,(zeroValue 3).run P w= .ok (.int .i64 0) w)(t4:P.underlying 4=some .bool)(a4:∀w,(isAgg 4).run P w= .ok false w)(z4:∀w,(Go.sizeOf 4).run P w= .ok 1 w)(t125:P.underlying 125=some (.slice 114))(a125:∀w,(isAgg 125).run P w= .ok false w)(z125:∀w,(Go.sizeOf 125).run P w= .ok 1 w)
  {k:Nat}(a114:∀w,(isAgg 114).run P w= .ok true w)(z114:∀w,(Go.sizeOf 114).run P w= .ok k w)(zv:Value)(v114:∀w,(zeroValue 114).run P w= .ok zv w)(hzs:zv.cells.size=k)(hz1:∀v∈zv.cells.toList,v.oneCell'=true){n:Nat}[Inhabited<|Fin n](enc:Fin n->List Value)(hk:∀x,(enc x).length=k)(h1:∀x,∀v∈enc x,v.oneCell'=true)(g:Nat)(cb:Array Value)(kp:Nat->Bool)(k0:kp 0=true)(blk off cap:Nat)(w:World)
  (eg:∀args w,(callFunc g args).run P w= .ok (.enter g args) w)(hH:HoldsK enc k w blk off (Array.ofFn λi:Fin n=>i))(hblk:blk<w.heap.size)(hcap:n<=cap)(hsz:n<=9223372036854775807)
  (hcmp:∀(m:Nat) (os:Array Obj) (dk:Array (Fin n)) (j:Nat) (hj:j+1<n),Calls P g (#[.agg (enc ⟨j+1,hj⟩).toArray,.agg (enc ⟨j,Nat.lt_of_succ_lt hj⟩).toArray]++cb) (sortWorldK enc k w blk off m dk os) λe w'=>e= .returned (.bool<| !kp (j+1))/\∃q os',w'=grow ((sortWorldK enc k w blk off m dk os).drewN q) os'):
  Calls P 207 #[.slice (some ⟨blk,off,none⟩) n cap,.func (.func g) #[] cb] w λe w'=>∃kk dk zs W,e= .returned (.slice (some ⟨blk,off,none⟩) kk cap)/\kk=((List.range n).filter kp).length/\SWK enc k w blk off dk W/\dk.size=n/\(dk.toList.take kk).map (·.val)=(List.range n).filter kp/\w'=W.setCells blk (off+kk*k) zs/\zs.length<=(n-kk)*k:=by
 have kz:∀j,j<1->kp j=true:=λj hj=>by
  obtain rfl:j=0:=Trn.A4;exact k0
 have hpos:0<n:=Fin.pos default;have hd0:(Array.ofFn λi:Fin n=>i).size=n:=Array.size_ofFn;have S0:Aside (SWK enc k w blk off (Array.ofFn λi:Fin n=>i) w):=SWK.start hH;have RR:Aside (RowK enc k w blk off (Array.ofFn λi:Fin n=>i)):=⟨hk,h1,hH,hblk⟩;have CM:Aside (∀(m:Nat) (os:Array Obj) (dk:Array (Fin n)) (j:Nat) (hj:j+1<n),Calls P g (#[.agg (enc ⟨j+1,hj⟩).toArray,.agg (enc ⟨j,Nat.lt_of_succ_lt hj⟩).toArray]++cb) (sortWorldK enc k w blk off m dk os) λe w'=>e= .returned (.bool<| !kp (j+1))/\∃q os',w'=grow ((sortWorldK enc k w blk off m dk os).drewN q) os'):=hcmp;clear hH hk h1 hcmp;have all:∀W,SWK enc k w blk off (Array.ofFn λi:Fin n=>i) W->(∀j,j<n->kp j=true)->∃kk dk zs W',(Ending.returned<| .slice (some ⟨blk,off,none⟩) n cap)= .returned (.slice (some ⟨blk,off,none⟩) kk cap)/\kk=((List.range n).filter kp).length/\SWK enc k w blk off dk W'/\dk.size=n/\(dk.toList.take kk).map (·.val)=(List.range n).filter kp/\W=W'.setCells blk (off+kk*k) zs/\zs.length<=(n-kk)*k:=λW hW hall=>by
  have e:(List.range n).filter kp=List.range n:=List.filter_eq_self.2 λj hj=>hall j<|List.mem_range.1 hj
  refine⟨n,_,[],W,rfl,by rw[e];simp,hW,hd0,?_,rfl,Nat.zero_le _⟩;rw[e,Array.toList_ofFn];apply List.ext_getElem
  ·simp
  ·intro i h1 h2;simp
 have ALL:Aside (∀W,SWK enc k w blk off (Array.ofFn λi:Fin n=>i) W->(∀j,j<n->kp j=true)->∃kk dk zs W',(Ending.returned<| .slice (some ⟨blk,off,none⟩) n cap)= .returned (.slice (some ⟨blk,off,none⟩) kk cap)/\kk=((List.range n).filter kp).length/\SWK enc k w blk off dk W'/\dk.size=n/\(dk.toList.take kk).map (·.val)=(List.range n).filter kp/\W=W'.setCells blk (off+kk*k) zs/\zs.length<=(n-kk)*k):=all;clear all;by_cases h2:n<2
 ·go_enter F,ntmps207
  go_wp2
  go_ret
  exact ALL.out w S0.out λj hj=>kz j Trn.A4
 ·go_enter F,ntmps207
  go_wp2
  go_loopg [5] n (λgg s5 wr=>∃kx:Nat,1<=kx/\kx<=n/\n-kx<=gg/\s5= .int .i64 kx/\Aside (SWK enc k w blk off (Array.ofFn λi:Fin n=>i) wr)/\Aside (∀j,j<kx->kp j=true))
  case atStart=>exact⟨1,Nat.le_refl _,Trn.A4,Trn.A4,by first|rfl|go_num,S0,kz⟩
  case round=>
   clear S0;obtain⟨kx,hk1,hkn,hg,rfl,SW,HA⟩:=hrel;by_cases hlt:kx<n
   ·obtain⟨j,rfl⟩:∃j,kx=j+1:=⟨kx-1,Trn.A4⟩;have jz:(j:Int)+1<(n:Int):=Trn.A4;have jz1:(j:Int)<(n:Int):=Trn.A4;have p0:(0:Int)<=(j:Int)+1:=Trn.A4;have e0:((j:Int)+1).toNat=j+1:=Trn.A4;have hwp:IntKind.i64.wrap (j:Int)=(j:Int):=by rw[IntKind.wrap_i64];omega
    obtain⟨cx,hcx⟩:∃c,(enc ⟨j+1,hlt⟩).toArray=c:=⟨_,rfl⟩;obtain⟨cy,hcy⟩:∃c,(enc ⟨j,Nat.lt_of_succ_lt hlt⟩).toArray=c:=⟨_,rfl⟩;have lj:∀n' os',Sem.run P (loadCellsFrom ⟨blk,off+(j+1)*k,none⟩ 0 k #[]) (grow (wr.drewN n') os')= .ok cx (grow (wr.drewN n') os'):=λn' os'=>by
     have:=SW.out.ld RR.out (by rw[hd0]) P (j+1) (by rw[hd0];exact hlt) n' os';rw[this,<-hcx,getElem!_pos _ _ (by rw[hd0];exact hlt)];simp
    have lp:∀n' os',Sem.run P (loadCellsFrom ⟨blk,off+j*k,none⟩ 0 k #[]) (grow (wr.drewN n') os')= .ok cy (grow (wr.drewN n') os'):=λn' os'=>by
     have:=SW.out.ld RR.out (by rw[hd0]) P j (by rw[hd0];omega) n' os';rw[this,<-hcy,getElem!_pos _ _ (by rw[hd0];omega)];simp
    have hcg:∀n' os',Calls P g (#[.agg cx,.agg cy]++cb) (grow (wr.drewN n') os') λe w'=>e= .returned (.bool<| !kp (j+1))/\∃q os'',w'=grow ((grow (wr.drewN n') os').drewN q) os'':=λn' os'=>by
     obtain⟨m,os0,hw⟩:=SW.out.grown n' os';rw[hw,<-hcx,<-hcy];exact CM.out m os0 _ j hlt
    cases hkp:kp (j+1) with
    |true=>
     rw[hkp,Bool.not_true] at hcg
     go_wp2_with fail
     go_quiet_grown (first|(go_at_fn g;refine Calls.grown_of<|hcg _ _))
     go_wp2
     go_roundg (n-(j+1+1))
     case measure=>omega
     case rel=>exact⟨j+1+1,Trn.A4,Trn.A4,Nat.le_refl _,by first|rfl|go_num,SW.out.grown nq osq,λi hi=>by
      rcases Nat.lt_or_ge i (j+1) with h|h
      ·exact HA.out i h
      ·have:i=j+1:=Trn.A4;rw[this];exact hkp⟩
    |false=>
     rw[hkp,Bool.not_false] at hcg
     go_wp2_with fail
     go_quiet_grown (first|(go_at_fn g;refine Calls.grown_of<|hcg _ _))
     have SW1:Aside (SWK enc k w blk off (Array.ofFn λi:Fin n=>i)<|grow (wr.drewN nq) osq):=SW.out.grown nq osq;clear lj lp hcg
     generalize grow (wr.drewN nq) osq=wq at SW1⊢
     go_wp2
     go_loopg [5,7] n (λgg s5 s7 wr=>∃(kk k2:Nat) (dk:Array (Fin n)),s5= .int .i64 kk/\s7= .int .i64 k2/\1<=k2/\j+1+k2<=n/\n-(j+1+k2)<=gg/\Aside (SWK enc k w blk off dk wr)/\Aside (Trn.Ns n kp (j+1+k2) kk dk)/\kk<j+1+k2)
     case atStart=>exact⟨j+1,1,_,by first|rfl|go_num,rfl,Nat.le_refl _,Trn.A4,Trn.A4,SW1,Trn.Ns.start hlt HA.out hkp,Trn.A4⟩
     case round=>
      clear SW1;obtain⟨kk,k2,dk,rfl,rfl,h21,hle,hg2,SW2,CI,hkk⟩:=hrel;have hdk:dk.size=n:=CI.out.size;by_cases hlt2:j+1+k2<n
      ·obtain⟨i,rfl⟩:∃i,k2=i+1:=⟨k2-1,Trn.A4⟩;have iz:(i:Int)+1<((n-(j+1):Nat):Int):=Trn.A4;have iz1:(i:Int)<((n-(j+1):Nat):Int):=Trn.A4;have q0:(0:Int)<=(i:Int)+1:=Trn.A4;have f0:((i:Int)+1).toNat=i+1:=Trn.A4;have hwq:IntKind.i64.wrap (i:Int)=(i:Int):=by rw[IntKind.wrap_i64];omega
       have ea:off+(j+1)*k+(i+1)*k=off+(j+1+(i+1))*k:=by rw[Nat.add_assoc,<-Nat.add_mul]
       have eb:off+(j+1)*k+i*k=off+(j+1+i)*k:=by rw[Nat.add_assoc,<-Nat.add_mul]
       have ga:dk[j+1+(i+1)]! =⟨j+1+(i+1),hlt2⟩:=by rw[getElem!_pos dk _ Trn.A4];exact CI.out.high _ hlt2 Trn.A4 _
       have gb:dk[j+1+i]! =⟨j+1+i,Nat.lt_of_succ_lt hlt2⟩:=by rw[getElem!_pos dk _ Trn.A4];exact CI.out.high (j+1+i) (Nat.lt_of_succ_lt hlt2) (show j+1+(i+1)-1<=j+1+i by omega) _
       obtain⟨cu,hcu⟩:∃c,enc ⟨j+1+(i+1),hlt2⟩=c:=⟨_,rfl⟩;obtain⟨cv,hcv⟩:∃c,enc ⟨j+1+i,Nat.lt_of_succ_lt hlt2⟩=c:=⟨_,rfl⟩;have lu:∀n' os',Sem.run P (loadCellsFrom ⟨blk,off+(j+1)*k+(i+1)*k,none⟩ 0 k #[]) (grow (wr.drewN n') os')= .ok cu.toArray (grow (wr.drewN n') os'):=λn' os'=>by
        have:=SW2.out.ld RR.out (by rw[hd0];exact hdk) P (j+1+(i+1)) Trn.A4 n' os';rw[ea,this,ga,hcu]
       have lv:∀n' os',Sem.run P (loadCellsFrom ⟨blk,off+(j+1)*k+i*k,none⟩ 0 k #[]) (grow (wr.drewN n') os')= .ok cv.toArray (grow (wr.drewN n') os'):=λn' os'=>by
        have:=SW2.out.ld RR.out (by rw[hd0];exact hdk) P (j+1+i) Trn.A4 n' os';rw[eb,this,gb,hcv]
       have hcg:∀n' os',Calls P g (#[.agg cu.toArray,.agg cv.toArray]++cb) (grow (wr.drewN n') os') λe w'=>e= .returned (.bool<| !kp (j+1+(i+1)))/\∃q os'',w'=grow ((grow (wr.drewN n') os').drewN q) os'':=λn' os'=>by
        obtain⟨m,os0,hw⟩:=SW2.out.grown n' os';rw[hw,<-hcu,<-hcv];exact CM.out m os0 dk (j+1+i) hlt2
       have GU:Aside (dk[j+1+(i+1)]! =⟨j+1+(i+1),hlt2⟩/\enc ⟨j+1+(i+1),hlt2⟩=cu):=⟨ga,hcu⟩;clear ea eb ga gb hcu hcv;cases hkq:kp (j+1+(i+1)) with
       |true=>
        rw[hkq,Bool.not_true] at hcg
        go_wp2_with fail
        go_quiet_grown (first|(go_at_fn g;refine Calls.grown_of<|hcg _ _))
        have SW3:Aside (SWK enc k w blk off dk<|grow (wr.drewN nq) osq):=SW2.out.grown nq osq;have l3:=lu nq osq;clear lu lv hcg SW2
        generalize grow (wr.drewN nq) osq=wq at SW3 l3⊢
        have n3:cu.length=k:=by rw[<-GU.out.2];exact RR.out.hk _
        have s3:Sem.run P (storeCells ⟨blk,off+kk*k,none⟩ cu 0) wq= .ok () (wq.setCells blk (off+kk*k) cu):=by
         rw[<-GU.out.2];exact stores_of_holds P (SW3.out.holds RR.out.hblk RR.out.hH (by rw[hdk,hd0])) (kk*k) _ (by rw[RR.out.hk,size_flatK];exact rowK_bnd dk k kk Trn.A4)<|RR.out.h1 _
        have kz1:(kk:Int)<(n:Int):=Trn.A4
        go_wp2
        go_roundg (n-(j+1+(i+1+1)))
        case measure=>omega
        case rel=>exact⟨kk+1,i+1+1,dk.setIfInBounds kk ⟨j+1+(i+1),hlt2⟩,by first|rfl|go_num,by first|rfl|go_num,Trn.A4,Trn.A4,Nat.le_refl _,by
         show SWK _ _ _ _ _ _ _;rw[<-GU.out.2];exact Trn.alm SW3.out RR.out.hk RR.out.hblk Trn.A4 _,CI.out.E6 hlt2 hkq,Trn.A4⟩
       |false=>
        rw[hkq,Bool.not_false] at hcg
        go_wp2_with fail
        go_quiet_grown (first|(go_at_fn g;refine Calls.grown_of<|hcg _ _))
        have SW3:Aside (SWK enc k w blk off dk<|grow (wr.drewN nq) osq):=SW2.out.grown nq osq;clear lu lv hcg SW2
        generalize grow (wr.drewN nq) osq=wq at SW3⊢
        go_wp2
        go_roundg (n-(j+1+(i+1+1)))
        case measure=>omega
        case rel=>exact⟨kk,i+1+1,dk,rfl,by first|rfl|go_num,Trn.A4,Trn.A4,Nat.le_refl _,SW3,CI.out.skip hkq,Trn.A4⟩
      ·have hend:j+1+k2=n:=Trn.A4;have hcl:∀ty,(Builtin.clear_ #[125] ty #[.slice (some ⟨blk,off+kk*k,none⟩) (n-kk)<|cap-kk]).run P wr= .ok (.tuple #[]) (wr.setCells blk (off+kk*k) (Builtin.zeroCells zv.cells<|n-kk).toList):=λty=>
        Trn.ae2 t125 v114 hz1 (SW2.out.holds RR.out.hblk RR.out.hH (by rw[hdk,hd0])) (by rw[hzs,size_flatK,hdk,<-Nat.add_mul];exact Nat.mul_le_mul_right k Trn.A4) Trn.A4
       have kz1:(kk:Int)<=(n:Int):=Trn.A4;have hzl:(Builtin.zeroCells zv.cells<|n-kk).toList.length<=(n-kk)*k:=by rw[Trn.uQ,hzs];exact Nat.le_refl _
       generalize (Builtin.zeroCells zv.cells<|n-kk).toList=zl at hcl hzl
       clear v114 hzs hz1
       go_wp2
       go_ret
       have C:=CI.out;rw[hend] at C;exact⟨kk,dk,zl,wr,rfl,C.len<|Nat.le_refl _,SW2.out,hdk,C.low,rfl,hzl⟩
   ·have:kx=n:=Trn.A4;subst this
    go_wp2
    go_ret
    exact ALL.out wr SW.out HA.out
set_option maxHeartbeats 4000000 in
set_option maxRecDepth 1000000 in
theorem ahT(p:Option Addr)(m:Nat)(hm:m<2)(cap:Nat)(fv:Value)(w:World):Calls prog 207 #[.slice p m cap,fv] w λe w'=>e= .returned (.slice p m cap)/\w'=w:=by
 go_enter func207,ntmps207
 go_wp2
 go_ret
 exact⟨rfl,rfl⟩
end
end Ol
namespace Trn
section
open Go.Shelf Go.Sort
variable[D:DR]
variable{α:Type}{blk:Nat}
def flags{α:Type}(l:A3 α)(bs:A3 Bool):A3 α:=((l.zip bs).filter (·.2)).map (·.1)
theorem wY{α:Type}{e:α->α->A9 Bool}:∀{l:A3 α} {x:α} {r:A3 α},Ww e x l=some r->∃bs:A3 Bool,bs.length=l.length/\(∀j (hj:j<l.length) (h2:j<(x::l).length) (h3:j<bs.length),e l[j] (x::l)[j]=some (!bs[j]))/\r=flags l bs
 |[],x,r,h=>by
  cases h;exact⟨[],rfl,λj hj=>absurd hj<|Nat.not_lt_zero _,rfl⟩
 |y::l,x,r,h=>by
  obtain⟨b,hb,h⟩:=NW h;obtain⟨r',hr,h⟩:=NW h;obtain⟨bs,h1,h2,h3⟩:=wY hr;have h:=E5 h;refine⟨(!b)::bs,by simp[h1],λj hj hj2 hj3=>?_,?_⟩
  ·grind
  ·rw[<-h,h3];cases b<;>simp[flags]
theorem vm{α:Type}:∀{l:A3 α} {bs:A3 Bool},bs.length=l.length->((List.range l.length).filter λj=>bs.getD j true).map (λj=>l[j]?)=(flags l bs).map some
 |[],[],_=>rfl
 |[],_::_,h=>by simp at h
 |_::_,[],h=>by simp at h
 |x::l,b::bs,h=>by
  have ih:=vm (l:=l) (bs:=bs) (by simpa using h);rw[Dj,List.range_succ_eq_map,ZH,List.filter_map];have e:(λj=>(b::bs).getD j true)∘Nat.succ=λj=>bs.getD j true:=by funext j;simp
  rw[e];have e2:(((List.range l.length).filter λj=>bs.getD j true).map Nat.succ).map (λj=>(x::l)[j]?)=(flags l bs).map some:=by
   rw[<-ih,QH];apply gn;intro j _;simp
  cases b
  ·simpa[flags] using e2
  ·simpa[flags] using e2
theorem afA{l r:A3 α}{c:α×α->A9 Bool}(h:Yb l c=some r):∃kp:Nat->Bool,kp 0=true/\(∀j (hj:j+1<l.length),c (l[j+1],l[j])=some (!kp (j+1)))/\((List.range l.length).filter kp).map (λj=>l[j]?)=r.map some:=by
 cases l with
 |nil=>cases h;exact⟨λ_=>true,rfl,λj hj=>absurd hj<|Nat.not_lt_zero _,rfl⟩
 |cons x l=>
  obtain⟨r',hr,h⟩:=NW h;have h:=E5 h;obtain⟨bs,h1,h2,h3⟩:=wY hr;refine⟨λj=>(true::bs).getD j true,rfl,λj hj=>?_,?_⟩
  ·grind
  ·rw[vm (l:=x::l) (bs:=true::bs) (by simp[h1]),<-h,h3];simp[flags]
theorem adY{W:AQ}{o:Nat}{cur:B6 AR}{E:Ah}{fr:Nat×Nat}{v:AR}(h:W.heap[blk]? =some (.cells cur E fr)):(W.setCell ⟨blk,o,none⟩ v).heap[blk]? =some (.cells (cur.setIfInBounds o v) E fr):=by
 simp[World.setCell,Tz,h]
theorem tU{blk:Nat}{E:Ah}{fr:Nat×Nat}:∀{vs:A3 AR} {W:AQ} {o:Nat} {cur:B6 AR},W.heap[blk]? =some (.cells cur E fr)->(W.setCells blk o vs).heap[blk]? =some (.cells (setMany cur o vs) E fr)
 |[],_,_,_,h=>h
 |v::vs,W,o,cur,h=>tU (vs:=vs)<|adY h
theorem vG{blk:Nat}:∀{vs:A3 AR} {W:AQ} {o:Nat},Ef W (W.setCells blk o vs) (some blk)
 |[],W,o=>⟨⟨rfl,rfl,rfl,BM _,λ_ _ _=>rfl⟩,BM _⟩
 |v::vs,W,o=>by
  have h:=vG (blk:=blk) (vs:=vs) (W:=W.setCell ⟨blk,o,none⟩ v) (o:=o+1);refine⟨⟨h.os,h.tape,h.output,Ca (by simp[World.setCell]) h.size,λk hk hne=>?_⟩,h.drawn⟩;have h1:=h.block k (by simpa[World.setCell] using hk) hne;show(World.setCells _ blk (o+1) vs).heap[k]? =_;rw[h1];exact Below.heap_setCell _ _ _ _ (λe=>hne (by rw[e]))
theorem uy{m:Nat}:∀{vs:A3 AR} {F:B6 AR} {s:Nat},m<=s->(setMany F s vs).toList.take m=F.toList.take m
 |[],_,_,_=>rfl
 |v::vs,F,s,h=>by
  rw[setMany,uy (vs:=vs) A4,iD,List.take_set_of_le h]
theorem aeY[Inhabited α]{enc:α->A3 AR}{k:Nat}{w:AQ}{m:Nat}{dk:B6 α}{os:B6 Obj}:Ef w (sortWorldK enc k w blk 0 m dk os) (some blk):=by
 refine⟨⟨rfl,rfl,rfl,kX,λi hi hne=>Xj hi (λe=>hne (by rw[e]))⟩,?_⟩;refine Gu.of ?_;show w.drawn<=(sortWorldK _ k w blk 0 m dk os).drawn;unfold sortWorldK Go.Sort.grow Go.Sort.putRowK Go.Sort.putRow Go.Sort.mapBlock Go.Sort.ahead;exact Tq _ _
theorem Ef.trans{w w1 w2:AQ}{row:A9 Nat}(h:Ef w w1 row)(k:Ef w1 w2 row):Ef w w2 row:=
 ⟨⟨k.os.trans h.os,k.tape.trans h.tape,k.output.trans h.output,Ca h.size k.size,λi hi hne=>(k.block i (J8 hi h.size) hne).trans<|h.block i hi hne⟩,Ca h.drawn k.drawn⟩
end
section
open Go.Shelf Go.Sort
variable[D:DR]
variable{P:Program}{A:Type}{τ:A->Ty}{k:Nat}{c:A×A->Option Bool}{f E:Nat}
theorem afz(hc:GL P f=true)(hn:∀a,(τ a).n=k)(ha:∀a,(τ a).agg=true)
  (rM:∀(p:A9 Addr) (m:Nat) (hm:m<2) (cap:Nat) (fv:AR) (w:AQ),Calls P f #[.slice p m cap,fv] w λe w'=>e= .returned (.slice p m cap)/\w'=w)
  (aqi:∀{n:Nat} [Inhabited<|Fin n] (enc:Fin n->A3 AR) (hk:∀x,(enc x).length=k) (h1:∀x,∀v∈enc x,v.oneCell'=true) (g:Nat) (cb:B6 AR) (kp:Nat->Bool) (k0:kp 0=true) (blk off cap:Nat) (w:AQ)
   (eg:∀args w,(callFunc g args).run P w= .ok (.enter g args) w) (hH:HoldsK enc k w blk off (Array.ofFn λi:Fin n=>i)) (hblk:blk<w.heap.size) (hcap:n<=cap) (hsz:n<=9223372036854775807)
   (hcmp:∀(m:Nat) (os:B6 Obj) (dk:B6 (Fin n)) (j:Nat) (hj:j+1<n),Calls P g (#[.agg (enc ⟨j+1,hj⟩).toArray,.agg (enc ⟨j,Nat.lt_of_succ_lt hj⟩).toArray]++cb) (sortWorldK enc k w blk off m dk os) λe w'=>e= .returned (.bool<| !kp (j+1))/\∃q os',w'=Go.Sort.grow ((sortWorldK enc k w blk off m dk os).drewN q) os'),
   Calls P f #[.slice (some ⟨blk,off,none⟩) n cap,.func (.func g) #[] cb] w λe w'=>∃kk dk zs W,e= .returned (.slice (some ⟨blk,off,none⟩) kk cap)/\kk=((List.range n).filter kp).length/\SWK enc k w blk off dk W/\dk.size=n/\(dk.toList.take kk).map (·.val)=(List.range n).filter kp/\w'=W.setCells blk (off+kk*k) zs/\zs.length<=(n-kk)*k)
  {l r:A3 A}(hm:Yb l c=some r):WS P f E k (lT τ l) [JL P (λx:A×A=>[τ x.1,τ x.2]) (λx:Bool=>[Ay x]) c] (lT τ r):=by
 obtain⟨kp,hk0,hkp,hkr⟩:=afA hm;refine⟨hc,λw H v xs vs sub gl hown As hH hvs=>?_⟩;obtain⟨fv,rfl,hfv⟩:=PD hvs;obtain⟨g,cap,FA,rfl,Ql,hf⟩:=hfv;have hlen:(lT τ l).length=l.length:=Bp ..;rw[hlen] at hown;by_cases hl0:l.length<2
 ·have hr:r=l:=by
   match l,hl0 with
   |[],_=>cases hm;rfl
   |[x],_=>cases hm;rfl
   |a::b::t,h=>simp only[Dj] at h;omega
  subst hr;obtain⟨p,Eo,rfl⟩:∃p Eo,v= .slice p r.length Eo:=by
   rcases hown.2 with⟨hv,h0⟩|⟨g,cap,cur,hv,_⟩
   ·grind
   ·grind
  refine(rM p r.length hl0 Eo _ w).mono ?_;rintro e w' ⟨rfl,rfl⟩;exact⟨_,rfl,⟨⟨rfl,rfl,rfl,BM _,λ_ _ _=>rfl⟩,BM _⟩,xs,by rw[hlen];exact hown,As,λb hb=>hb⟩
 ·have hpos:0<l.length:=A4;obtain⟨blk,Eo,cur,rfl,hblk,hnc,hcm,hcs,htake⟩:∃blk Eo cur,v= .slice (some ⟨blk,0,.none⟩) l.length Eo/\w.heap[blk]? =some (.cells cur E (0,0))/\l.length<=Eo/\Eo<=maxLen/\cur.size=Eo*k/\cur.toList.take (l.length*k)=xs:=by
   rcases hown.2 with⟨_,hz⟩|⟨g,cap,cur,hv,_,r⟩
   ·omega
   ·grind
  haveI:Inhabited (Fin l.length):=⟨⟨0,hpos⟩⟩
  obtain⟨GR,KD⟩:=TH hn ha As;have hB:H blk= .none:=hH blk rfl;have UZ:∀j (hj:j+1<l.length),GL P g=true:=λj hj=>E0.can (D:=DR.strict)<|hf _ _<|hkp j hj
  have main:=aqi (λi:Fin l.length=>chunk k xs i) (λi=>TM GR i.2) (λi u hu=>Rg As u<|Tx<|QP hu) g cap kp hk0 blk 0 Eo w
   (λargs w=>Ow (UZ 0 A4) args w) (vF GR hblk htake) (lt_of_heap hblk) hnc (Ca hnc hcm)
   (λm os dk j hj=>anX (off:=0) hn ha As sub gl hB Ql hf m os dk ⟨j+1,hj⟩ ⟨j,Nat.lt_of_succ_lt hj⟩<|hkp j hj)
  refine main.mono ?_;rintro e w' ⟨kk,dk,zs,W,rfl,hkk,⟨m,os,rfl⟩,hdk,UY,rfl,hzs⟩;have hlr:(dk.toList.take kk).map (λi=>l[i])=r:=by
   have h1:((dk.toList.take kk).map λi=>l[i]).map some=r.map some:=by
    rw[<-hkr,<-UY,QH,QH];apply gn;intro i _;simp
   exact(List.map_inj_right<|λa b h=>E5 h).1 h1
  have Jh:kk<=l.length:=AY;have hrk:r.length=kk:=AY;have Ki:(flatK (λi:Fin l.length=>chunk k xs i) k dk).size=l.length*k:=by rw[size_flatK,hdk]
  have hle:l.length*k<=cur.size:=AY;have hkm:kk*k<=l.length*k:=J9 k Jh;have He:=tU (vs:=zs) (o:=0+kk*k)<|tK (enc:=λi:Fin l.length=>chunk k xs i) (k:=k) (m:=m) (dk:=dk) (os:=os) hblk
  have Pg:=ui (α:=Fin l.length) (d:=flatK (λi:Fin l.length=>chunk k xs i) k dk) (cur:=cur) (by rw[Ki];exact hle);rw[Ki] at Pg;refine⟨_,rfl,aeY.trans vG,(flatK (λi:Fin l.length=>chunk k xs i) k dk).toList.take<|kk*k,?_,?_,λb hb=>hb⟩
  ·rw[Bp,hrk];refine⟨by rw[Dn,Ex,Ki];exact EN hkm,.inr ⟨blk,Eo,_,rfl,FM _,He,A4,hcm,?_,?_⟩⟩
   ·rw[size_setMany,<-hcs];simp[Go.Sort.putCells]
   ·rw[uy A4,<-Pg,NJ,EN hkm]
  ·refine dF (by rw[Dn,Ex,Ki,hrk];exact EN hkm) λi hi=>?_
   have hi2:i<dk.size:=A4;have ec:chunk k ((flatK (λi:Fin l.length=>chunk k xs i) k dk).toList.take<|kk*k) i=chunk k (flatK (λi:Fin l.length=>chunk k xs i) k dk).toList i:=by
    have hb:i*k+k<=kk*k:=by
     have:=J9 k (show i+1<=kk by omega);rwa [JR,LZ] at this
    unfold chunk;rw[MA,NJ,EN (by rw[Nat.le_sub_iff_add_le A4];omega)]
   rw[ec,nG (λi=>TM GR i.2) hi2,Jo dk i hi2];have e:r[i]=l[dk[i]]:=AY;rw[e];exact KD _ dk[i].2
end
section
variable{l:A3 Int}{x:Int}{n:Nat}{y:Int}{s:Nat}{q:Int}{r:Int×A3 Int}{ρ:Type}{R:ρ->Prop}{a:A3 Int}{α:Type}{b:A3 Int}{y1 y0 N d z:Int}{m k:Nat}{K:α->A9 ρ}{X Y u0 v0 v1:Int}{w:A3 Int}{P UL VL U2:Int}
def Yd{ρ:Type}(R:ρ->Prop)(o:A9 ρ):Prop:=∃r,o=some r/\R r
def AU{x:ρ}(h:R x):Yd R (some x):=⟨x,rfl,h⟩
def A5{e:A9 α}{x:α}(h:e=some x)(k:Yd R (K x)):Yd R (Trn.bd e K):=by subst h;exact k
def G5{o:A9 α}{r:α}(h:Yd (λx=>x=r) o):o=some r:=by
 obtain⟨x,e,rfl⟩:=h;exact e
theorem Az{S:α->Prop}{e:A9 α}(h:Yd S e)(k:∀x,S x->Yd R (K x)):Yd R (Trn.bd e K):=by grind [Yd,bd]
theorem Ad{b:Bool}{x y:A9 ρ}(hx:b=true->Yd R x)(hy:b=false->Yd R y):Yd R (cond b x y):=by grind
def Yd.gC{ρ:Type}{R:ρ->Prop}{b:Bool}{x:A9 ρ}(hb:b=true)(hx:Yd R x):Yd R (Trn.gC b x):=by subst hb;exact hx
def Hb{g:Bool}{d:α}{e:A9 α}(h1:g=true->∃x,e=some x/\Yd R (K x))(h2:g=false->Yd R (K d)):Yd R (Trn.Aq g d e K):=by
 cases g
 ·exact h2 rfl
 ·obtain⟨x,rfl,h⟩:=h1 rfl;exact h
def Du(I:α->Prop){E:(α->A9 ρ)->A9 ρ}(hK:∀s,I s->Yd R (K s))(hE:∀k,(∀s,I s->Yd R (k s))->Yd R (E k)):Yd R (Trn.jn K E):=hE K hK
def Ea{σ ρ:Type}{R:ρ->Prop}{B:(σ->A9 ρ)->σ->A9 ρ}(I:σ->Prop)(μ:σ->Nat)(h:∀next s,I s->(∀s',I s'->μ s'<μ s->Yd R (next s'))->Yd R (B next s)):∀(F:Nat) (s:σ),I s->μ s<F->Yd R (Trn.lp F B s)
 |0,s,_,h=>by omega
 |F+1,s,hi,hm=>h _ s hi λs' hi' hm'=>Ea I μ h F s' hi' A4
theorem Yd.imp{S:ρ->Prop}{o:A9 ρ}(h:Yd R o)(k:∀r,R r->S r):Yd S o:=by grind [Yd]
def EZ{n:Int}(h:DX n):AG n=some n:=by
 unfold DX at h;unfold AG Hd;rw[B0 h.1,B0 h.2]
 rfl
def BC{n:Int}(h: -9223372036854775808<=n/\n<=9223372036854775807:=by omega):AG n=some n:=EZ h
theorem U6{i:Int}(h0:0<=i)(h1:i<l.length):AA l i=some (l.getD i.toNat 0):=by grind [AA]
def Bc(h:n<l.length):AA l (n:Int)=some (l.getD n 0):=by
 show l[n]? =_;simp[h]
theorem Qi{b:Nat}{n:Int}{z:α}(h0:0<=n)(h1:b*n<=140737488355328)(hb:1<=b):mk_ b n z=some (List.replicate n.toNat z):=by induction b<;>grind [mk_]
theorem EW{l:A3 α}{lo hi:Int}(h0:0<=lo)(h1:lo<=hi)(h2:hi<=l.length):C2 l lo hi=some ((l.take hi.toNat).drop lo.toNat):=by grind [C2]
theorem ao2{k:IntKind}(h:0<=y):MN k x y=some (x.fdiv<|2^(min y.toNat k.bits)):=by grind [MN]
theorem ao3{k:IntKind}(h:0<=y):MO k x y=some (k.wrap<|x*2^(min y.toNat k.bits)):=by grind [MO]
abbrev BB:Int:=18446744073709551616
def Aw(n:Nat):Int:=BB^n
def Yj:Aw 0=1:=rfl
def JO(n:Nat):Aw (n+1)=BB*Aw n:=by unfold Aw;rw[Int.pow_succ,EC]
def LV:∀n,0<Aw n
 |0=>by rw[Yj];omega
 |n+1=>by rw[JO];have:=LV n;unfold BB;omega
theorem fg(m n:Nat):Aw (m+n)=Aw m*Aw n:=by grind [Aw]
def N6(x:Int)(l:A3 Int):AJ (x::l)=x+BB*AJ l:=rfl
def VK:∀(l m:A3 Int),AJ (l++m)=AJ l+Aw l.length*AJ m
 |[],m=>by simp[AJ,Yj]
 |x::l,m=>by
  rw[QL,N6,N6,VK l m,Dj,JO,Ct,Ei];omega
def Z0:okW []:=by intro x h;cases h
theorem P9:okW (x::l)↔(0<=x/\x<BB)/\okW l:=by simp_all [okW,BB]
theorem wK{m:A3 Int}:okW (l++m)↔okW l/\okW m:=by grind [okW]
theorem M3(h:okW l)(n:Nat):okW (l.take n):=by grind [okW]
theorem Rf(h:okW l)(n:Nat):okW (l.drop n):=by grind [okW]
def Ft(h:okW l)(n:Nat):0<=l.getD n 0/\l.getD n 0<BB:=by
 by_cases hn:n<l.length
 ·have:l.getD n 0=l[n]:=by simp[IF,hn]
  rw[this];exact h _<|L0 hn
 ·have:l.getD n 0=0:=by simp[IF,hn]
  rw[this];unfold BB;omega
theorem V9(n:Nat):okW (List.replicate n 0):=by grind [okW]
theorem KI(h:okW l)(n:Nat)(hx:0<=x/\x<BB):okW (l.set n x):=by(simp_all [okW,BB]<;>grind)
def km:∀n,AJ (List.replicate n 0)=0
 |0=>rfl
 |n+1=>by rw[List.replicate_succ,N6,km n];omega
def Gd:∀{l:A3 Int},okW l->0<=AJ l/\AJ l<Aw l.length
 |[],_=>by simp[AJ,Yj]
 |x::l,h=>by
  rw[P9] at h;obtain⟨h1,h2⟩:=Gd h.2;rw[N6,Dj,JO];have:=h.1;unfold BB at*;omega
theorem bz(h:n<l.length):l.take (n+1)=l.take n++[l.getD n 0]:=by simp_all
def Xl(h:n<l.length):AJ (l.take<|n+1)=AJ (l.take n)+Aw n*l.getD n 0:=by
 rw[bz h,VK,Dn,EN A4];simp[AJ]
def RP(l:A3 Int)(n:Nat)(h:n<=l.length):AJ l=AJ (l.take n)+Aw n*AJ (l.drop n):=by
 conv=>lhs;rw[<-OX n l]
 rw[VK,Dn,EN h]
def TJ:∀{l:A3 Int},okW l->l≠[]->l.getLast?≠some 0->Aw (l.length-1)<=AJ l
 |[],_,h,_=>absurd rfl h
 |[x],h,_,hl=>by
  rw[P9] at h;have:x≠0:=λe=>hl (by rw[e];rfl)
  simp[AJ,Yj];omega
 |x::y::l,h,_,hl=>by
  rw[P9] at h;have:=TJ (l:=y::l) h.2 AS (by simpa using hl);rw[N6,show(x::y::l).length-1=(y::l).length-1+1 from by simp,JO];have:=h.1;unfold BB at*;omega
def aiF(h:n<l.length)(x:Int):l.set n x=l.take n++x::l.drop (n+1):=by
 rw[List.set_eq_take_append_cons_drop,if_pos h]
def HB(h:n<=m)(x:Int):(l.set m x).take n=l.take n:=by
 rw[List.take_set_of_le h]
theorem getD_set_ne(h:n≠m)(x:Int):(l.set m x).getD n 0=l.getD n 0:=by grind
theorem Ie(h:n<l.length)(x:Int):(l.set n x).getD n 0=x:=by grind
def Norm(w:A3 Int):Prop:=okW w/\w.getLast?≠some 0
def Norm.nil:Norm []:=⟨Z0,AS⟩
def Norm.len(h:Norm w)(hv:AJ w<Aw n):w.length<=n:=by
 by_cases h0:w=[]
 ·subst h0;simp
 ·have h1:=TJ h.1 h0 h.2;rcases Hp n w.length with h2|h2
  ·have:Aw n<=Aw (w.length-1):=by
    obtain⟨k,hk⟩:∃k,w.length-1=n+k:=⟨w.length-1-n,A4⟩;rw[hk,fg];have a:=LV n;have b:=LV k;have:Aw n*1<=Aw n*Aw k:=Ey A4 A4;omega
   omega
  ·exact h2
theorem EH{a b:Bool}(h:(a&&b)=true):a=true/\b=true:=by grind
def Rh(ha:okW a)(hl:a.length<4611686018427387904):Yd (λw=>Norm w/\AJ w=AJ a/\w.length<=a.length) (O7 a):=by
 unfold O7;refine Ea (λs:Int=>0<=s/\s<=a.length/\AJ (a.take s.toNat)=AJ a) (λs:Int=>s.toNat) ?_ _ _ ⟨A4,A4,AS⟩ E8;rintro next s ⟨h0,h1,h2⟩ hn
 refine Hb (λhg=>?_)<|λhg=>?_
 ·have hs:0<s:=An hg;refine⟨s-1,EZ ⟨A4,A4⟩,Hb (λ_=>⟨a.getD (s-1).toNat 0,U6 A4 A4,Ad (λhc=>?_)<|λhc=>?_⟩) (λh=>by rw[hg] at h;cases h)⟩
  ·obtain⟨_,hz⟩:=EH hc;have hz:=An hz;refine A5 BC<|hn _ ⟨A4,A4,?_⟩ A4
   have e:s.toNat=(s-1).toNat+1:=A4;rw[e,Xl A4,hz,Ti,Vv] at h2;exact h2
  ·refine A5 (EW A4 h0 h1) (AU ⟨⟨M3 ha _,?_⟩,h2,E8⟩);rw[B0 hs,KL] at hc;have hz:=BQ hc;have e:s.toNat=(s-1).toNat+1:=A4;show(a.take s.toNat).getLast?≠some 0;rw[e,bz A4];simpa using hz
 ·have hs: ¬0<s:=BQ hg;have hs:s=0:=A4;subst hs;refine Hb (λh=>by rw[hg] at h;cases h) (λ_=>Ad (λhc=>by simp at hc) (λ_=>A5 (EW A4 A4 h1) (AU ⟨by simpa using Norm.nil,by simpa using h2,AS⟩)))
theorem afR(ha:okW a)(hb:okW b)(hla:a.length<4398046511104)(hlb:b.length<4398046511104):Yd (λw=>Norm w/\AJ w=AJ a+AJ b) (Xs a b):=by
 unfold Xs;refine Du (λs:A3 Int×A3 Int=>okW s.1/\okW s.2/\s.2.length<=s.1.length/\s.1.length<4398046511104/\AJ s.1+AJ s.2=AJ a+AJ b) ?_ λk hk=>Ad (λhc=>?_)<|λhc=>?_
 rotate_left
 ·grind
 ·grind
 rintro⟨x,y⟩ ⟨hx,hy,hl,hlx,hv⟩;simp only at hx hy hl hlx hv⊢;rw[<-hv];refine A5 BC<|A5 (Qi A4 A4 A4) ?_
 refine Ea (λs:A3 Int×Int×Int=>okW s.1/\s.1.length=x.length+1/\(s.2.1=0\/s.2.1=1)/\0<=s.2.2/\s.2.2<=x.length/\AJ (s.1.take s.2.2.toNat)+Aw s.2.2.toNat*s.2.1=AJ (x.take s.2.2.toNat)+AJ (y.take s.2.2.toNat))
  (λs:A3 Int×Int×Int=>x.length-s.2.2.toNat) ?_ _ _ ⟨V9 _,by simp only[NT];omega,.inl rfl,Au,Au,by simp[AJ]⟩ Au
 rintro next ⟨o,c,i⟩ ⟨h1,h2,h3,h4,h5,h6⟩ hn
 simp only at h1 h2 h3 h4 h5 h6 hn⊢;obtain⟨n,rfl⟩:=F8 h4;simp only[Ch,MF] at*;refine Ad (λhc=>?_)<|λhc=>?_
 ·have hc:=An hc;refine Du (λv=>v=y.getD n 0) ?_ λk hk=>Ad (λhd=>?_)<|λhd=>?_
  ·rintro v rfl;obtain⟨p1,p2⟩:=Ft hx n;obtain⟨q1,q2⟩:=Ft hy n;refine A5 (U6 A4 A4) ?_;simp only[Ch]
   generalize hX:x.getD n 0=X at*
   generalize hY:y.getD n 0=Y at*
   have ai:LX X Y c=some ((X+Y+c)%BB,(X+Y+c)/BB):=by
    unfold LX H4;rw[B0 p1,B0 p2,B0 q1,B0 q2];rcases h3 with rfl|rfl<;>rfl
   refine A5 ai<|A5 (U6 A4 A4)<|A5 (U6 A4 A4)<|A5 BC ?_
   have hdm:=OW (X+Y+c) BB;have Kd:0<=(X+Y+c)%BB:=Ld _ (by unfold BB;omega);have hr1:(X+Y+c)%BB<BB:=L1 _ (by unfold BB;omega);have hq:(X+Y+c)/BB=0\/(X+Y+c)/BB=1:=AY;refine hn _ ⟨KI h1 _ ⟨Kd,hr1⟩,by simpa using h2,hq,Au,Au,?_⟩ Au;have e:(((n:Nat):Int)+1).toNat=n+1:=A4;simp only[e,Ch];rw[Xl (by simpa using by omega),HB<|BM _,Ie A4,Xl A4,hX,JO];have hy':AJ (y.take<|n+1)=AJ (y.take n)+Aw n*Y:=by
    rcases Hp n y.length with h|h
    ·rw[Xl h,hY]
    ·have:Y=0:=by rw[<-hY];simp[IF,h]
     rw[this,Cd A4,Cd h];omega
   rw[hy'];have key:Aw n*((X+Y+c)%BB)+BB*Aw n*((X+Y+c)/BB)=Aw n*(X+Y+c):=AY;have k2:Aw n*(X+Y+c)=Aw n*X+Aw n*Y+Aw n*c:=AY;omega
  ·have hd:=An hd;exact A5 (U6 A4 hd)<|hk _ AS
  ·grind
 ·have hc:=BQ hc;have H9:n=x.length:=A4;subst H9;refine A5 (U6 A4 A4)<|A5 (U6 A4 A4) ?_
  have EU:0<=c/\c<BB:=by unfold BB;omega
  refine Az (Rh (KI h1 x.length EU) E8) λw ⟨w1,w2,_⟩=>AU ⟨w1,?_⟩
  have e1:=RP (o.set x.length c) x.length (by rw[Jq];omega);have e2:(o.set x.length c).drop x.length=[c]:=by
   rw[aiF A4,NM,Mo (by rw[Dn];omega)];have:(o.drop<|x.length+1)=[]:=Mo A4;rw[this,Dn,EN A4];simp
  rw[e2,HB<|BM _] at e1;rw[Cd (l:=x) A4,Cd (l:=y) A4] at h6;rw[show AJ [c]=c from by simp[AJ]] at e1;omega
def zI(h:n<l.length):AJ l=AJ (l.take n)+Aw n*(l.getD n 0+BB*AJ (l.drop<|n+1)):=by
 rw[RP l n A4]
 congr 2
 rw[U4 h,N6]
 congr 1
 simp[IF,h]
def fM(h:m<=n):Aw m<=Aw n:=by
 obtain⟨k,rfl⟩:∃k,n=m+k:=⟨n-m,A4⟩;rw[fg];have a:=LV m;have b:=LV k;have:Aw m*1<=Aw m*Aw k:=Ey A4 A4;omega
def YM(ha:okW a)(hb:Norm b)(h:a.length<b.length):AJ a<AJ b:=by
 have h1:=(Gd ha).2;have h2:=TJ hb.1 (by intro e;subst e;simp at h) hb.2;have h3:=fM (show a.length<=b.length-1 by omega);omega
theorem te(ha:Norm a)(hb:Norm b)(hla:a.length<4398046511104)(hlb:b.length<4398046511104):
  Yd (λr=>(r= -1/\AJ a<AJ b)\/(r=0/\AJ a=AJ b)\/(r=1/\AJ b<AJ a)) (XR a b):=by
 unfold XR;refine Ad (λhc=>Ad (λhd=>?_)<|λhd=>?_)<|λhc=>?_
 ·have hd:=An hd;exact AU<| .inl ⟨rfl,YM ha.1 hb A4⟩
 ·have hd:=BQ hd;rw[GW,Ik] at hc;exact AU<| .inr<| .inr ⟨rfl,YM hb.1 ha A4⟩
 ·rw[ZN,J7] at hc;have hl:a.length=b.length:=A4;refine A5 BC ?_;refine Ea (λs:Int=> -1<=s/\s<a.length/\a.drop (s+1).toNat=b.drop (s+1).toNat) (λs:Int=>(s+1).toNat) ?_ _ _ ⟨A4,A4,?_⟩ A4
  ·rintro next s ⟨h0,h1,h2⟩ hn
   refine Ad (λhp=>?_)<|λhp=>?_
   ·have hp:=An hp;obtain⟨n,rfl⟩:=F8 hp;have en:(((n:Nat):Int)+1).toNat=n+1:=A4;rw[en] at h2;refine A5 (Bc A4)<|A5 (Bc A4) ?_
    have eA:=zI (l:=a) (n:=n) A4;have eB:=zI (l:=b) (n:=n) A4;rw[h2] at eA;obtain⟨tA0,tA⟩:=Gd<|M3 ha.1 n
    obtain⟨tB0,tB⟩:=Gd<|M3 hb.1 n
    rw[Dn,EN A4] at tA tB;have hpw:=LV n;have gA:AA a (n:Int)=some (a.getD n 0):=Bc A4;have gB:AA b (n:Int)=some (b.getD n 0):=Bc A4;have dA:a.drop n=a.getD n 0::a.drop (n+1):=by
     rw[U4 (show n<a.length by omega)]
     congr 1
     simp[IF,show n<a.length by omega]
    have dB:b.drop n=b.getD n 0::b.drop (n+1):=by
     rw[U4 (show n<b.length by omega)]
     congr 1
     simp[IF,show n<b.length by omega]
    generalize a.getD n 0=X at*
    generalize b.getD n 0=Y at*
    have eA':AJ a=AJ (a.take n)+Aw n*X+Aw n*(BB*AJ (b.drop<|n+1)):=AY;have eB':AJ b=AJ (b.take n)+Aw n*Y+Aw n*(BB*AJ (b.drop<|n+1)):=AY;refine Ad (λhx=>?_)<|λhx=>?_
    ·rw[GW,Ik] at hx;refine A5 gA<|A5 gB<|Ad (λhlt=>?_)<|λhlt=>?_
     ·have hlt:=An hlt;have:Aw n*(X+1)<=Aw n*Y:=Ey A4 A4;rw[Ct,LY] at this;exact AU<| .inl ⟨rfl,A4⟩
     ·have hlt:=BQ hlt;have:Aw n*(Y+1)<=Aw n*X:=Ey A4 A4;rw[Ct,LY] at this;exact AU<| .inr<| .inr ⟨rfl,A4⟩
    ·rw[ZN,J7] at hx;refine A5 BC<|hn _ ⟨A4,A4,?_⟩ A4
     have:(((n:Nat):Int)-1+1).toNat=n:=A4;rw[this,dA,dB,hx,h2]
   ·have hp:=BQ hp;have:s= -1:=A4;subst this;exact AU (.inr (.inl ⟨rfl,by simpa using congrArg AJ h2⟩))
  ·have:((a.length:Int)-1+1).toNat=a.length:=A4;rw[this,Rz,hl,Rz]
theorem pF{c:Int}(hx:0<=X/\X<BB)(hy:0<=Y/\Y<BB)(hc:c=0\/c=1):∃r d:Int,Rr X Y c=some (r,d)/\0<=r/\r<BB/\(d=0\/d=1)/\X-Y-c=r-BB*d:=by
 have h:Rr X Y c=some ((X-Y-c)%GO,bif decide (X<Y+c) then 1 else 0):=by
  unfold Rr H4;rw[B0 hx.1,B0 hx.2,B0 hy.1,B0 hy.2];rcases hc with rfl|rfl<;>rfl
 refine⟨_,_,h,Ld _ (by unfold GO;omega),L1 _ (by unfold GO;omega),?_,?_⟩
 ·grind
 ·unfold GO BB at*;by_cases h:X<Y+c
  ·grind
  ·grind
def WR{c:Int}(hx:0<=X/\X<BB)(hy:0<=Y/\Y<BB)(hc:c=0\/c=1):∃r d:Int,LX X Y c=some (r,d)/\0<=r/\r<BB/\(d=0\/d=1)/\X+Y+c=r+BB*d:=by
 have h:LX X Y c=some ((X+Y+c)%GO,(X+Y+c)/GO):=by
  unfold LX H4;rw[B0 hx.1,B0 hx.2,B0 hy.1,B0 hy.2];rcases hc with rfl|rfl<;>rfl
 refine⟨_,_,h,Ld _ (by unfold GO;omega),L1 _ (by unfold GO;omega),?_,?_⟩
 ·unfold GO BB at*;omega
 ·have:=OW (X+Y+c) GO;unfold GO BB at*;omega
def gF(hx:0<=X/\X<BB)(hy:0<=Y/\Y<BB):∃hi lo:Int,QE X Y=some (hi,lo)/\0<=hi/\hi<=BB-2/\0<=lo/\lo<BB/\X*Y=lo+BB*hi:=by
 have h:QE X Y=some (X*Y/GO,X*Y%GO):=by
  unfold QE H4;rw[B0 hx.1,B0 hx.2,B0 hy.1,B0 hy.2]
  rfl
 have h1:=OW (X*Y) GO;have h2:0<=X*Y:=Ky hx.1 hy.1;have h3:X*Y<=(BB-1)*(BB-1):=PI A4 A4 hy.1 (by unfold BB;omega);have h4:0<=X*Y%GO:=Ld _ (by unfold GO;omega);have h5:X*Y%GO<GO:=L1 _ (by unfold GO;omega);refine⟨_,_,h,?_,?_,h4,h5,?_⟩
 ·exact Kz h2 (by unfold GO;omega)
 ·generalize X*Y/GO=q at*
  generalize X*Y%GO=r at*
  generalize X*Y=p at*
  unfold GO BB at*;omega
 ·unfold GO BB at*;omega
theorem ZZ(h:l.length<=n):l.getD n 0=0:=by grind
def FH(l:A3 Int)(n:Nat):AJ (l.take<|n+1)=AJ (l.take n)+Aw n*l.getD n 0:=by
 rcases Hp n l.length with h|h
 ·exact Xl h
 ·rw[ZZ h,Cd A4,Cd h];omega
def vC(ha:okW a)(hb:okW b)(hl:b.length<=a.length)(hla:a.length<4398046511104)(hv:AJ b<=AJ a):Yd (λw=>Norm w/\AJ w=AJ a-AJ b) (Xr a b):=by
 unfold Xr;refine A5 (Qi A4 A4 A4) ?_;refine Ea (λs:A3 Int×Int×Int=>okW s.1/\s.1.length=a.length/\(s.2.1=0\/s.2.1=1)/\0<=s.2.2/\s.2.2<=a.length/\AJ (s.1.take s.2.2.toNat)=AJ (a.take s.2.2.toNat)-AJ (b.take s.2.2.toNat)+Aw s.2.2.toNat*s.2.1)
  (λs:A3 Int×Int×Int=>a.length-s.2.2.toNat) ?_ _ _ ⟨V9 _,by simp only[NT];omega,.inl rfl,Au,Au,by simp[AJ]⟩ Au
 rintro next ⟨o,c,i⟩ ⟨h1,h2,h3,h4,h5,h6⟩ hn
 simp only at h1 h2 h3 h4 h5 h6 hn⊢;obtain⟨n,rfl⟩:=F8 h4;simp only[Ch,MF] at*;refine Ad (λhc=>?_)<|λhc=>?_
 ·have hc:=An hc;refine Du (λv=>v=b.getD n 0) ?_ λk hk=>Ad (λhd=>?_)<|λhd=>?_
  ·rintro v rfl;obtain⟨r,d,e1,e2,e3,e4,e5⟩:=pF (Ft ha n) (Ft hb n) h3;refine A5 (Bc A4)<|A5 e1<|A5 (Bc A4)<|A5 (Bc A4)<|A5 BC ?_
   refine hn _ ⟨KI h1 _ ⟨e2,e3⟩,by simpa using h2,e4,Au,Au,?_⟩ Au;have e:(((n:Nat):Int)+1).toNat=n+1:=A4;simp only[e,Ch];rw[FH,HB<|BM _,Ie A4,FH a,FH b,JO]
   generalize a.getD n 0=X at*
   generalize b.getD n 0=Y at*
   have key:Aw n*(X-Y-c)=Aw n*r-BB*Aw n*d:=by rw[e5,Me,<-Ei,EC (Aw n) BB]
   have k2:Aw n*(X-Y-c)=Aw n*X-Aw n*Y-Aw n*c:=by rw[Me,Me]
   omega
  ·have hd:=An hd;exact A5 (Bc A4)<|hk _ rfl
  ·have hd:=BQ hd;exact hk _ (by rw[ZZ A4])
 ·have hc:=BQ hc;have H9:n=a.length:=A4;subst H9;refine Az (Rh h1 A4) λw ⟨w1,w2,_⟩=>AU ⟨w1,?_⟩
  rw[w2];rw[Cd (l:=o) A4,Cd (l:=a) A4,Cd (l:=b) A4] at h6;have BD:=(Gd h1).2;rw[h2] at BD;have hp:=LV a.length;rcases h3 with rfl|rfl
  ·omega
  ·omega
def aeT(h:AJ (l.drop n)=0)(hk:okW l)(hm:n<=m):l.getD m 0=0:=by
 have key:∀(l:A3 Int) (j:Nat),okW l->AJ l=0->l.getD j 0=0:=by
  intro l
  induction l with
  |nil=>intro j _ _;simp
  |cons x l ih=>
   intro j hk hv;rw[P9] at hk;rw[N6] at hv;have h1:=(Gd hk.2).1;have hx:=hk.1;unfold BB at*;cases j with
   |zero=>simp;omega
   |succ j=>simpa using ih j hk.2 A4
 have:=key (l.drop n) (m-n) (Rf hk n) h;simpa[IF,Tv,show n+(m-n)=m by omega] using this
def afQ(ha:okW a)(hb:okW b)(hla:a.length<2199023255552)(hlb:b.length<2199023255552):Yd (λw=>Norm w/\AJ w=AJ a*AJ b) (cW a b):=by
 unfold cW;refine A5 BC<|A5 (Qi A4 A4 A4) ?_
 refine Ea (λs:A3 Int×Int=>okW s.1/\s.1.length=a.length+b.length/\0<=s.2/\s.2<=a.length/\AJ (s.1.take<|s.2.toNat+b.length)=AJ (a.take s.2.toNat)*AJ b)
  (λs:A3 Int×Int=>a.length-s.2.toNat) ?_ _ _ ⟨V9 _,by simp only[NT];omega,Au,Au,?_⟩ Au
 rotate_left
 ·dsimp only;rw[ZP,km];simp[AJ]
 rintro next ⟨o,i⟩ ⟨h1,h2,h3,h4,h5⟩ hn
 simp only at h1 h2 h3 h4 h5 hn⊢;obtain⟨n,rfl⟩:=F8 h3;simp only[Ch,MF] at*;refine Ad (λhc=>?_)<|λhc=>?_
 ·have hc:=An hc;refine A5 (Bc A4) ?_;refine Ea (λs:A3 Int×Int×Int=>okW s.1/\s.1.length=a.length+b.length/\(0<=s.2.1/\s.2.1<BB)/\0<=s.2.2/\s.2.2<=b.length/\s.1.drop (n+s.2.2.toNat)=o.drop (n+s.2.2.toNat)/\
    AJ (s.1.take<|n+s.2.2.toNat)+Aw (n+s.2.2.toNat)*s.2.1=AJ (o.take<|n+s.2.2.toNat)+Aw n*(a.getD n 0*AJ (b.take s.2.2.toNat)))
   (λs:A3 Int×Int×Int=>b.length-s.2.2.toNat) ?_ _ _ ⟨h1,h2,⟨Au,by dsimp only;unfold BB;omega⟩,Au,Au,rfl,by simp[AJ]⟩ Au
  rintro HG ⟨p,c,j⟩ ⟨g1,g2,g3,g4,g5,g6,g7⟩ IY;simp only at g1 g2 g3 g4 g5 g6 g7 IY⊢;obtain⟨m,rfl⟩:=F8 g4;simp only[Ch,MF] at*;have eo:p.getD (n+m) 0=o.getD (n+m) 0:=by
   have:=congrArg (λl=>l.getD 0 0) g6;simpa[IF,Tv] using this
  refine Ad (λhd=>?_)<|λhd=>?_
  ·have hd:=An hd;obtain⟨hi,lo,m1,m2,m3,m4,m5,m6⟩:=gF (Ft ha n)<|Ft hb m
   obtain⟨r1,d1,a1,a2,a3,a4,a5⟩:=WR (X:=lo) (Y:=p.getD (n+m) 0) (c:=0) ⟨m4,m5⟩ (Ft g1 _)<| .inl rfl
   obtain⟨r2,d2,b1,b2,b3,b4,b5⟩:=WR (X:=r1) (Y:=c) (c:=0) ⟨a2,a3⟩ g3<| .inl rfl
   have enm:((n:Nat):Int)+((m:Nat):Int)=((n+m:Nat):Int):=A4;rw[enm];refine A5 (Bc A4)<|A5 m1<|A5 BC<|A5 (Bc A4)<|A5 (Bc A4)<|A5 a1<|A5 b1<|A5 BC<|A5 (Bc A4)<|A5 (Bc A4)<|A5 BC ?_
   obtain⟨xa,xb⟩:=Ft ha n;obtain⟨ya,yb⟩:=Ft hb m;obtain⟨oa,ob⟩:=Ft g1<|n+m
   have Mw:a.getD n 0*b.getD m 0<=(BB-1)*(BB-1):=PI A4 A4 ya (by unfold BB;omega);have hD:BB*(hi+d1+d2)=a.getD n 0*b.getD m 0+p.getD (n+m) 0+c-r2:=by unfold BB at*;omega
   have hlt:hi+d1+d2<BB:=by
    generalize a.getD n 0*b.getD m 0=q at*
    unfold BB at*;omega
   have hw:wr .u64 (wr .u64 (hi+d1)+d2)=hi+d1+d2:=by
    have e1:wr .u64 (hi+d1)=hi+d1:=wrap_u64 ⟨A4,by unfold BB at*;omega⟩;rw[e1];exact wrap_u64 ⟨A4,by unfold BB at*;omega⟩
   dsimp only;rw[hw];refine IY _ ⟨KI g1 _ ⟨b2,b3⟩,by simpa using g2,⟨Au,hlt⟩,Au,Au,?_,?_⟩ Au
   ·have e:(((m:Nat):Int)+1).toNat=m+1:=A4;simp only[e,Ch];rw[gk A4,<-Kx];have:=congrArg (List.drop 1) g6;rwa [FW,FW] at this
   ·have e:(((m:Nat):Int)+1).toNat=m+1:=A4;simp only[e,Ch];rw[<-Kx,FH,HB<|BM _,Ie A4,FH o,FH b,<-eo,JO];have k1:Aw n*(a.getD n 0*(AJ (b.take m)+Aw m*b.getD m 0))=Aw n*(a.getD n 0*AJ (b.take m))+Aw (n+m)*(a.getD n 0*b.getD m 0):=by
     rw[Ct,Ct,fg,GC (a.getD n 0)<|Aw m,Ei]
    have k2:Aw (n+m)*r2+BB*Aw (n+m)*(hi+d1+d2)=Aw (n+m)*(a.getD n 0*b.getD m 0)+Aw (n+m)*p.getD (n+m) 0+Aw (n+m)*c:=by
     rw[EC BB,Ei,<-Ct,<-Ct,<-Ct]
     congr 1;omega
    rw[k1];omega
  ·have hd:=BQ hd;have hm':m=b.length:=A4;subst hm';have enm:((n:Nat):Int)+((b.length:Nat):Int)=((n+b.length:Nat):Int):=A4;rw[enm];refine A5 BC<|A5 (Bc A4)<|A5 (Bc A4)<|A5 BC ?_
   refine hn _ ⟨KI g1 _ g3,by simpa using g2,Au,Au,?_⟩ Au;have e:(((n:Nat):Int)+1).toNat=n+1:=A4;simp only[e,Ch];rw[show n+1+b.length=(n+b.length)+1 from by omega,FH,HB<|BM _,Ie A4,FH a,HY];rw[Cd (l:=b) A4,h5] at g7;rw[g7,Ei]
 ·have hc:=BQ hc;have H9:n=a.length:=A4;subst H9;refine Az (Rh h1 A4) λw ⟨w1,w2,_⟩=>AU ⟨w1,?_⟩
  rw[w2];rw[Cd (l:=o) A4,Cd (l:=a) A4] at h5;exact h5
def wrW(n:Int):IntKind.wrap .u64 n=n%BB:=by
 unfold IntKind.wrap
 rfl
def Iu{n:Int}(h:0<=n/\n<BB):IntKind.wrap .u64 n=n:=by rw[wrW,Tt h.1 h.2]
def aaD(hx:0<=x)(hy:0<=y)(hs:y<2^s)(hd:x%2^s=0)(hw:x+y<BB):GY .or .u64 x y=x+y:=by
 obtain⟨a,rfl⟩:=F8 hx;obtain⟨b,rfl⟩:=F8 hy;have Co:b<2^s:=by exact_mod_cast hs
 have hd':a%2^s=0:=by exact_mod_cast hd
 have ho:a|||b=a+b:=by
  have e:a=2^s*(a/2^s):=by have:=Nat.div_add_mod a (2^s);omega
  rw[e,<-Nat.two_pow_add_eq_or_of_lt Co]
 have hb:a+b<2^64:=by unfold BB at hw;omega
 unfold GY;show IntKind.wrap .u64 ((BitVec.ofInt 64 a|||BitVec.ofInt 64 b).toNat:Int)=_;have e1:BitVec.ofInt 64 (a:Int)=BitVec.ofNat 64 a:=gq ..;have e2:BitVec.ofInt 64 (b:Int)=BitVec.ofNat 64 b:=gq ..;rw[e1,e2,BitVec.toNat_or,gi,gi,S1 A4,S1 A4,ho];exact Iu ⟨A4,A4⟩
def z7(hx:0<=x/\x<BB):GY .and .u64 x 4294967295=x%4294967296:=by
 obtain⟨a,rfl⟩:=F8 hx.1;have hb:a<2^64:=by have:=hx.2;unfold BB at this;omega
 unfold GY;show IntKind.wrap .u64 ((BitVec.ofInt 64 a&&&BitVec.ofInt 64 ((4294967295:Nat):Int)).toNat:Int)=_;have e1:BitVec.ofInt 64 (a:Int)=BitVec.ofNat 64 a:=gq ..;have e2:BitVec.ofInt 64 ((4294967295:Nat):Int)=BitVec.ofNat 64 4294967295:=gq ..;rw[e1,e2,BitVec.toNat_and,gi,gi,S1 hb,S1 A4,show 4294967295=2^32-1 from rfl,Nat.and_two_pow_sub_one_eq_mod];have:a%2^32<2^32:=OH _ A4;rw[Iu ⟨A4,by unfold BB;omega⟩];omega
def jS(hs:s<=64):MN .u64 x (s:Int)=some (x/2^s):=by
 rw[ao2 A4]
 congr 1
 rw[Ch,EN<|show s<=IntKind.bits .u64 from hs];exact ZW _<|EM<|Int.pow_pos A4
def jT(hs:s<=64):MO .u64 x (s:Int)=some (x*2^s%BB):=by
 rw[ao3 A4]
 congr 1
 rw[Ch,EN<|show s<=IntKind.bits .u64 from hs,wrW]
def Xv(h:s<=64):(2:Int)^s*2^(64-s)=BB:=by
 rw[<-Int.pow_add,show s+(64-s)=64 from by omega];rfl
def two_pos(s:Nat):(0:Int)<2^s:=Int.pow_pos A4
def vV(hs:s<=64)(hx:0<=x/\x<BB):
  ∃lo hi:Int,MO .u64 x (s:Int)=some lo/\MN .u64 x ((64:Int)-(s:Int))=some hi/\0<=lo/\lo<BB/\0<=hi/\hi<2^s/\lo%2^s=0/\x*2^s=lo+BB*hi:=by
 have e64:((64:Int)-(s:Int))=((64-s:Nat):Int):=A4;have h2:=Xv hs;have p1:=two_pos s;have p2:=two_pos<|64-s
 have ab4:x*2^s=(x%2^(64-s))*2^s+BB*(x/2^(64-s)):=by
  conv=>lhs;rw[<-OW x (2^(64-s))]
  rw[HY,<-h2,gh,EC (2^(64-s))<|2^s]
 have r0:=Ld x (show(2:Int)^(64-s)≠0 by omega);have r1:=L1 x p2;have hlt:(x%2^(64-s))*2^s<BB:=by
  rw[<-h2,EC];exact Int.mul_lt_mul_of_pos_left r1 p1
 have Kh:0<=(x%2^(64-s))*2^s:=Ky r0<|EM p1
 refine⟨(x%2^(64-s))*2^s,x/2^(64-s),?_,?_,Kh,hlt,Kz hx.1<|EM p2,?_,Int.mul_emod_left _ _,ab4⟩
 ·rw[jT hs,ab4,Int.add_mul_emod_self_left,Tt Kh hlt]
 ·rw[e64,jS A4]
 ·refine ZQ p2 ?_;rw[h2];exact hx.2
structure HS(y1 y0 N d q r:Int):Prop where
 q0:0<=q
 q1:q<=4294967297
 e:q*y1+r=N
 r0:0<=r
 r1:r<4294967296
 up:N*4294967296+d<(q+1)*(y1*4294967296+y0)
structure HQ(y1 y0 N d q:Int):Prop where
 q0:0<=q
 q1:q<4294967296
 lo:q*(y1*4294967296+y0)<=N*4294967296+d
 up:N*4294967296+d<(q+1)*(y1*4294967296+y0)
structure HP(y1 y0 N d:Int):Prop where
 a0:2147483648<=y1
 a1:y1<4294967296
 b0:0<=y0
 b1:y0<4294967296
 n0:0<=N
 n1:N<y1*4294967296+y0
 d0:0<=d
 d1:d<4294967296
def aAN(p:HP y1 y0 N d):HS y1 y0 N d (N/y1) (N-N/y1*y1):=by
 obtain⟨a0,a1,b0,b1,n0,n1,d0,d1⟩:=p;have h1:=OW N y1;have h2:=Ld N (show y1≠0 by omega);have h3:=L1 N (show 0<y1 by omega);have h4:0<=N/y1:=Kz n0 A4
 generalize N/y1=q at*
 generalize N%y1=r at*
 rw[EC y1 q] at h1;refine⟨h4,?_,A4,A4,A4,?_⟩
 ·have:q<=4294967297\/4294967298<=q:=A4;rcases this with h|h
  ·exact h
  ·have:4294967298*y1<=q*y1:=MH h A4;omega
 ·have hq:0<=q*y0:=Ky h4 b0;rw[HY,Ct,<-Ei];omega
def abe{r:Int}(p:HP y1 y0 N d)(h:HS y1 y0 N d q r)(hc: ¬4294967296<=q)(hd: ¬4294967296*r+d<q*y0):HQ y1 y0 N d q:=by
 obtain⟨a0,a1,b0,b1,n0,n1,d0,d1⟩:=p;obtain⟨q0,q1,e,r0,r1,up⟩:=h;refine⟨q0,A4,?_,up⟩;rw[Ct,<-Ei];omega
def jC{r:Int}(p:HP y1 y0 N d)(h:HS y1 y0 N d q r)(hc:4294967296<=q\/4294967296*r+d<q*y0):1<=q/\N*4294967296+d<(q-1+1)*(y1*4294967296+y0):=by
 obtain⟨a0,a1,b0,b1,n0,n1,d0,d1⟩:=p;obtain⟨q0,q1,e,r0,r1,up⟩:=h;have e1:q-1+1=q:=A4;rw[e1,Ct,<-Ei];rcases hc with hc|hc
 ·refine⟨A4,?_⟩;have h1:4294967296*y1<=q*y1:=MH hc A4;have h2:4294967296*y0<=q*y0:=MH hc A4;omega
 ·refine⟨?_,A4⟩;have:1<=q\/q=0:=A4;rcases this with h|h
  ·exact h
  ·subst h;omega
def yi{r:Int}(p:HP y1 y0 N d)(h:HS y1 y0 N d q r)(hc:4294967296<=q\/4294967296*r+d<q*y0)(hb:4294967296<=r+y1):HQ y1 y0 N d (q-1):=by
 obtain⟨u1,u2⟩:=jC p h hc;obtain⟨a0,a1,b0,b1,n0,n1,d0,d1⟩:=p;obtain⟨q0,q1,e,r0,r1,up⟩:=h;have hy:(q-1)*y0<=4294967296*y0:=MH A4 b0;have e2:(q-1)*y1=q*y1-y1:=by rw[Tp,Ho]
 have lo:(q-1)*(y1*4294967296+y0)<=N*4294967296+d:=by
  rw[Ct,<-Ei,e2];omega
 refine⟨A4,?_,lo,u2⟩;have:q-1<4294967296\/4294967296<=q-1:=A4;rcases this with h|h
 ·exact h
 ·have:4294967296*(y1*4294967296+y0)<=(q-1)*(y1*4294967296+y0):=MH h A4;omega
def aAM{r:Int}(p:HP y1 y0 N d)(h:HS y1 y0 N d q r)(hc:4294967296<=q\/4294967296*r+d<q*y0)(hb:r+y1<4294967296):HS y1 y0 N d (q-1) (r+y1):=by
 obtain⟨u1,u2⟩:=jC p h hc;obtain⟨a0,a1,b0,b1,n0,n1,d0,d1⟩:=p;obtain⟨q0,q1,e,r0,r1,up⟩:=h;have e2:(q-1)*y1=q*y1-y1:=by rw[Tp,Ho]
 exact⟨A4,A4,A4,A4,A4,u2⟩
def aAO{r:Int}(p:HP y1 y0 N d)(h:HS y1 y0 N d q r):
  ((decide<|4294967296<=q)||(decide<|(IntKind.wrap .u64<|(IntKind.wrap .u64<|4294967296*r)+d)<(IntKind.wrap .u64<|q*y0)))=decide (4294967296<=q\/4294967296*r+d<q*y0):=by
 obtain⟨a0,a1,b0,b1,n0,n1,d0,d1⟩:=p;obtain⟨q0,q1,e,r0,r1,up⟩:=h;rw[Iu (n:=4294967296*r) ⟨A4,by unfold BB;omega⟩,Iu (n:=4294967296*r+d) ⟨A4,by unfold BB;omega⟩];by_cases hq:4294967296<=q
 ·rw[B0 hq,B0<|show _\/_ from .inl hq,Vx]
 ·have h1:0<=q*y0:=Ky q0 b0;have h2:q*y0<=4294967295*4294967295:=PI A4 A4 b0 A4;rw[Iu (n:=q*y0) ⟨h1,by unfold BB;omega⟩,Bl hq,Tl]
  congr 1
  simp[hq]
def aAx(p:HP y1 y0 N d)(h:HQ y1 y0 N d q)(hy:y=y1*4294967296+y0):
  IntKind.wrap .u64 (IntKind.wrap .u64 (IntKind.wrap .u64 (N*4294967296)+d)-IntKind.wrap .u64 (q*y))=N*4294967296+d-q*y:=by
 obtain⟨a0,a1,b0,b1,n0,n1,d0,d1⟩:=p;obtain⟨q0,q1,lo,up⟩:=h;subst hy;simp only[wrW];rw[HY,Ho] at up
 generalize q*(y1*4294967296+y0)=Z at*
 unfold BB;omega
def YY(h:n≠0):2^Nat.log2 n<=n/\n<2^(Nat.log2 n+1):=⟨Nat.log2_self_le h,Nat.lt_log2_self⟩
def aas(h0:0<y)(h1:y<BB):∃s:Nat,WY y=some (s:Int)/\s<=63/\BB<=2*(y*2^s)/\y*2^s<BB:=by
 obtain⟨n,rfl⟩:=F8<|EM h0
 have hn:n≠0:=A4;obtain⟨l1,l2⟩:=YY hn;have hl:Nat.log2 n<=63:=by
  have:Nat.log2 n<64:=by
   rw[PF hn];have:n<18446744073709551616:=by have:=h1;unfold BB at this;omega
   exact this
  omega
 refine⟨63-Nat.log2 n,?_,A4,?_,?_⟩
 ·unfold WY H4;rw[B0 (show(0:Int)<=(n:Int) by omega),B0<|show((n:Nat):Int)<18446744073709551616 from h1];show some (64-((Nb ((n:Nat):Int).toNat:Nat):Int))=_;have:Nb n=Nat.log2 n+1:=by
   unfold Nb;have:Nat.beq n 0=false:=by
    cases hb:Nat.beq n 0 with
    |false=>rfl
    |true=>exact absurd (EG hb) hn
   rw[this];rfl
  rw[Ch,this]
  congr 1;omega
 ·have e:2^(63-Nat.log2 n)*2^Nat.log2 n=2^63:=by rw[<-M9];congr 1;omega
  have:2^63<=2^(63-Nat.log2 n)*n:=by rw[<-e];exact ZO _ l1
  have h2:(2:Int)^63<=2^(63-Nat.log2 n)*(n:Int):=by exact_mod_cast this
  rw[EC] at h2;unfold BB;omega
 ·have e:2^(63-Nat.log2 n)*2^(Nat.log2 n+1)=2^64:=by rw[<-M9];congr 1;omega
  have:2^(63-Nat.log2 n)*n<2^64:=by rw[<-e];exact Nat.mul_lt_mul_of_pos_left l2<|ZF _
  have h2:2^(63-Nat.log2 n)*(n:Int)<(2:Int)^64:=by exact_mod_cast this
  rw[EC] at h2;unfold BB;omega
def oe(hx:0<=x/\x<BB)(hy:0<y):Ue .u64 x y=some (x/y):=by
 unfold Ue;rw[Bl (show¬y=0 by omega)];show some (IntKind.wrap .u64<|x.tdiv y)=_;rw[Int.tdiv_eq_ediv_of_nonneg hx.1,Iu ⟨Kz hx.1<|EM hy,Int.lt_of_le_of_lt (Ry _ hx.1) hx.2⟩]
theorem QB(hx:0<=x)(hy:0<y):Fy x y=some (x%y):=by grind [Fy]
def abO:MN .u64 x 32=some (x/4294967296):=jS (s:=32) A4
def xk{hi lo:Int}(Kg:0<=hi/\hi<y)(Fp:0<=lo/\lo<BB)(hy:y<BB):
  Yd (λp=>(0<=p.1/\p.1<BB)/\(0<=p.2/\p.2<y)/\hi*BB+lo=p.1*y+p.2) (XU hi lo y):=by
 unfold XU;dsimp only[wr];refine Ad (λhc=>absurd (An hc) A4)<|λ_=>Ad (λhc=>absurd (An hc) A4)<|λ_=>Ad (λh0=>?_)<|λh0=>?_
 ·have h0:=An h0;subst h0;refine A5 (oe Fp Kg.2)<|A5 (QB Fp.1 Kg.2)<|AU ⟨⟨Kz Fp.1 A4,Int.lt_of_le_of_lt (Ry _ Fp.1) Fp.2⟩,⟨Ld _ A4,L1 _ Kg.2⟩,?_⟩
  have:=OW lo y;rw[EC] at this;dsimp only;omega
 ·have h0:=BQ h0;obtain⟨s,l1,l2,l3,l4⟩:=aas (y:=y) A4 hy;have ws:IntKind.wrap .u64 (s:Int)=s:=Iu ⟨A4,by unfold BB;omega⟩;have arj:IntKind.wrap .u64 ((64:Int)-s)=64-s:=Iu ⟨A4,by unfold BB;omega⟩;have ps:=two_pos s;have hgt:hi*2^s+2^s<=y*2^s:=by
   have:(hi+1)*2^s<=y*2^s:=MH A4<|EM ps
   rw[HY,Ho] at this;exact this
  have hn:0<=hi*2^s:=Ky Kg.1<|EM ps
  obtain⟨u0,u1,e1,e2,a1,a2,a3,a4,a5,a6⟩:=vV (x:=lo) (s:=s) A4 Fp;have eY:MO .u64 y (s:Int)=some (y*2^s):=by rw[jT A4,Tt A4 l4]
  have eH:MO .u64 hi (s:Int)=some (hi*2^s):=by rw[jT A4,Tt hn A4]
  have eO:GY .or .u64 (hi*2^s) u1=hi*2^s+u1:=aaD (s:=s) hn a3 a4 (Int.mul_emod_left _ _) A4;refine A5 l1 ?_;rw[ws,arj];refine A5 eY<|A5 abO<|A5 eH<|A5 e2<|A5 e1<|A5 abO ?_
  rw[eO,z7 (x:=u0) ⟨a1,a2⟩,z7 (x:=y*2^s) ⟨A4,l4⟩];have UY:hi*BB*2^s+lo*2^s=(hi*2^s+u1)*BB+u0:=by
   rw[a6,HY,gh hi BB,EC BB u1];omega
  generalize hYd:y*2^s=Y at*
  generalize hNd:hi*2^s+u1=N at*
  have y1b:2147483648<=Y/4294967296:=by unfold BB at*;omega
  have y1c:Y/4294967296<4294967296:=by unfold BB at*;omega
  have yy:Y=Y/4294967296*4294967296+Y%4294967296:=A4;have hP1:HP (Y/4294967296) (Y%4294967296) N (u0/4294967296):=⟨y1b,y1c,A4,A4,A4,A4,A4,by unfold BB at*;omega⟩;have hu:u0=u0/4294967296*4294967296+u0%4294967296:=A4;have u00:0<=u0%4294967296:=A4;have u01:u0%4294967296<4294967296:=A4;have hYB:Y<BB:=l4
  generalize Y/4294967296=y1 at*
  generalize Y%4294967296=y0 at*
  generalize u0/4294967296=d1 at*
  generalize u0%4294967296=d0 at*
  have hN:0<=N/\N<BB:=⟨hP1.n0,A4⟩;refine A5 (oe hN A4) ?_;refine Du (HQ y1 y0 N d1) ?_ ?_
  ·intro q1 hq1;rw[aAx hP1 hq1 yy];have g1:=hq1.lo;have g2:=hq1.up;rw[<-yy] at g1 g2;rw[HY,Ho] at g2;have hP2:HP y1 y0 (N*4294967296+d1-q1*Y) d0:=⟨y1b,y1c,hP1.b0,hP1.b1,A4,A4,u00,u01⟩
   generalize hM:N*4294967296+d1-q1*Y=M at*
   refine A5 (oe ⟨hP2.n0,A4⟩ A4) ?_;refine Du (HQ y1 y0 M d0) ?_ ?_
   ·intro q0 hq0;rw[aAx hP2 hq0 yy];have f1:=hq0.lo;have f2:=hq0.up;rw[<-yy] at f1 f2;rw[HY,Ho] at f2;have MQ:hi*BB*2^s+lo*2^s=(q1*4294967296+q0)*Y+(M*4294967296+d0-q0*Y):=by
     rw[UY,HY,gh];unfold BB
     generalize q1*Y=A at*
     generalize q0*Y=B at*
     omega
    generalize hR:M*4294967296+d0-q0*Y=R at*
    have hR0:0<=R:=A4;have hR1:R<Y:=A4;refine A5 (jS A4)<|AU ?_
    have q1a:=hq1.q0;have q1b:=hq1.q1;have q0a:=hq0.q0;have q0b:=hq0.q1;have eq:IntKind.wrap .u64 (IntKind.wrap .u64 (q1*4294967296)+q0)=q1*4294967296+q0:=by
     rw[Iu (n:=q1*4294967296) ⟨A4,by unfold BB;omega⟩,Iu ⟨A4,by unfold BB;omega⟩]
    dsimp only;rw[eq];have hdiv:R=2^s*(hi*BB+lo-(q1*4294967296+q0)*y):=by
     rw[<-hYd] at MQ;rw[Me,Ct,EC (2^s)<|hi*BB,EC (2^s) lo,EC (2^s)<|_*y,Ei _ y];omega
    have hdd:R/2^s=hi*BB+lo-(q1*4294967296+q0)*y:=by
     rw[hdiv,Int.mul_ediv_cancel_left _ A4]
    refine⟨⟨A4,by unfold BB;omega⟩,⟨Kz hR0 A4,ZQ ps (by rw[hYd];exact hR1)⟩,?_⟩;rw[hdd];omega
   ·intro k hk;have hi0:=aAN hP2;have w1:0<=M/y1:=Kz hP2.n0 A4;have e1:IntKind.wrap .u64 (M-IntKind.wrap .u64 (M/y1*y1))=M-M/y1*y1:=by
     have:=hi0.e;have:=hi0.r0;have:=hi0.r1;have h1:0<=M/y1*y1:=Ky w1 A4;rw[Iu (n:=M/y1*y1) ⟨h1,by have:=hP2.n1;omega⟩,Iu ⟨A4,by unfold BB;omega⟩]
    rw[e1];refine Ea (λs:Int×Int=>HS y1 y0 M d0 s.2 s.1) (λs:Int×Int=>s.2.toNat) ?_ _ _ hi0 (by have:=hi0.q0;have:=hi0.q1;dsimp only;omega);rintro next ⟨r,q⟩ h rN
    dsimp only at h⊢;rw[aAO hP2 h];have wr1:IntKind.wrap .u64 (r+y1)=r+y1:=Iu ⟨by have:=h.r0;omega,by have:=h.r1;unfold BB;omega⟩;refine Ad (λhc=>?_)<|λhc=>?_
    ·have hc:=An hc;have hup:=(jC hP2 h hc).1;have wq:IntKind.wrap .u64 (q-1)=q-1:=Iu ⟨A4,by have:=h.q1;unfold BB;omega⟩;simp only[wr1,wq];refine Ad (λhd=>?_)<|λhd=>?_
     ·exact hk _<|yi hP2 h hc<|An hd
     ·exact rN _ (aAM hP2 h hc (by have:=BQ hd;omega)) Au
    ·have hc:=BQ hc;exact hk _<|abe hP2 h (λa=>hc<| .inl a)<|λa=>hc<| .inr a
  ·intro k hk;have hi0:=aAN hP1;have w1:0<=N/y1:=Kz hP1.n0 A4;have e1:IntKind.wrap .u64 (N-IntKind.wrap .u64 (N/y1*y1))=N-N/y1*y1:=by
    have:=hi0.e;have:=hi0.r0;have:=hi0.r1;have h1:0<=N/y1*y1:=Ky w1 A4;rw[Iu (n:=N/y1*y1) ⟨h1,A4⟩,Iu ⟨A4,by unfold BB;omega⟩]
   rw[e1];refine Ea (λs:Int×Int=>HS y1 y0 N d1 s.1 s.2) (λs:Int×Int=>s.1.toNat) ?_ _ _ hi0 (by have:=hi0.q0;have:=hi0.q1;dsimp only;omega);rintro next ⟨q,r⟩ h rN
   dsimp only at h⊢;rw[aAO hP1 h];have wr1:IntKind.wrap .u64 (r+y1)=r+y1:=Iu ⟨by have:=h.r0;omega,by have:=h.r1;unfold BB;omega⟩;refine Ad (λhc=>?_)<|λhc=>?_
   ·have hc:=An hc;have hup:=(jC hP1 h hc).1;have wq:IntKind.wrap .u64 (q-1)=q-1:=Iu ⟨A4,by have:=h.q1;unfold BB;omega⟩;simp only[wr1,wq];refine Ad (λhd=>?_)<|λhd=>?_
    ·exact hk _<|yi hP1 h hc<|An hd
    ·exact rN _ (aAM hP1 h hc (by have:=BQ hd;omega)) Au
   ·have hc:=BQ hc;exact hk _<|abe hP1 h (λa=>hc<| .inl a)<|λa=>hc<| .inr a
theorem oY:(List.replicate n (0:Int)).getD m 0=0:=by grind
def yW{lo:Int}(hs:s<=64)(h:lo%2^s=0)(hl:lo<BB):lo+2^s<=BB:=by
 have e:=OW lo<|2^s
 rw[h] at e;have h2:=Xv hs;have p:=two_pos s
 generalize lo/2^s=k at*
 have hk:k<2^(64-s):=by
  rcases(show k<2^(64-s)\/2^(64-s)<=k by omega) with h'|h'
  ·exact h'
  ·have:=Ey h' (EM p);omega
 have:=Ey (show k+1<=2^(64-s) from hk)<|EM p
 rw[Ct,LY] at this;omega
def z6(hx:0<=x)(hy:0<=y)(hs:y<2^s)(hd:x%2^s=0)(hw:x+y<BB):GY .or .u64 y x=x+y:=by
 rw[<-aaD hx hy hs hd hw];unfold GY;dsimp only;rw[BitVec.or_comm]
def vd(ha:okW a)(hs:s<=63)(hl:a.length<2199023255552):Yd (λw=>okW w/\w.length=a.length+1/\AJ w=AJ a*2^s) (Y1 a (s:Int)):=by
 unfold Y1;refine A5 BC<|A5 (Qi A4 A4 A4) ?_
 have ps:=two_pos s;refine Ea (λt:A3 Int×Int=>okW t.1/\t.1.length=a.length+1/\0<=t.2/\t.2<=a.length/\t.1.getD t.2.toNat 0<2^s/\(∀m,t.2.toNat<m->t.1.getD m 0=0)/\AJ (t.1.take<|t.2.toNat+1)=AJ (a.take t.2.toNat)*2^s)
  (λt:A3 Int×Int=>a.length-t.2.toNat) ?_ _ _ ⟨V9 _,by simp only[NT];omega,Au,Au,?_,?_,?_⟩ Au
 rotate_left
 ·dsimp only;rw[oY];exact ps
 ·intro m hm;exact oY
 ·dsimp only;rw[ZP,km];simp[AJ]
 rintro next ⟨o,i⟩ ⟨h1,h2,h3,h4,h5,h6,h7⟩ hn
 simp only at h1 h2 h3 h4 h5 h6 h7 hn⊢;obtain⟨n,rfl⟩:=F8 h3;simp only[Ch,MF] at*;refine Ad (λhc=>?_)<|λhc=>?_
 ·have hc:=An hc;refine Du (λp:A3 Int=>okW p/\p.length=a.length+1/\p.getD (n+1) 0<2^s/\(∀m,n+1<m->p.getD m 0=0)/\AJ (p.take<|n+2)=AJ (a.take<|n+1)*2^s) ?_ ?_
  ·rintro p ⟨g1,g2,g3,g4,g5⟩;refine A5 BC<|hn _ ⟨g1,g2,Au,Au,?_⟩ Au
   have e:(((n:Nat):Int)+1).toNat=n+1:=A4;simp only[e];exact⟨g3,g4,g5⟩
  ·intro k hk;obtain⟨lo,hi,b1,b2,b3,b4,b5,b6,b7,b8⟩:=vV (x:=a.getD n 0) (s:=s) A4<|Ft ha n
   have acP:=yW A4 b7 b4;have ho:=Ft h1 n;have eor:GY .or .u64 (o.getD n 0) lo=lo+o.getD n 0:=z6 b3 ho.1 h5 b7 A4;refine A5 (Bc A4)<|A5 (Bc A4)<|A5 (Bc A4)<|A5 b1<|A5 (Bc A4)<|A5 (Bc A4) ?_
   rw[eor];have Kg:hi<BB:=by
    have h2:=Xv (s:=s) A4;have:=two_pos<|64-s
    have:(2:Int)^s*1<=2^s*2^(64-s):=Ey this<|EM ps
    omega
   have rQ:AJ (o.take n)+Aw n*o.getD n 0=AJ (a.take n)*2^s:=by rw[<-h7,FH]
   have Jv:AJ (o.take n)+Aw n*(lo+o.getD n 0)+Aw (n+1)*hi=AJ (a.take<|n+1)*2^s:=by
    rw[FH a,HY,<-rQ,Ei,b8,Ct,Ct,JO,GC<|Aw n,Ei BB];omega
   refine Ad (λhd=>?_)<|λhd=>?_
   ·have hd:=An hd;have e1:((n:Nat):Int)+1=((n+1:Nat):Int):=A4;rw[e1];refine A5 BC<|A5 BC<|A5 b2 ?_
    refine A5 (Bc (by rw[Jq];omega)) (A5 (Bc (by rw[Jq];omega)) ?_);simp only[Ch];refine hk _ ⟨KI (KI h1 _ ⟨A4,A4⟩) _ ⟨b5,Kg⟩,by simpa using h2,?_,?_,?_⟩
    ·rw[Ie (by rw[Jq];omega)];exact b6
    ·intro m hm;rw[getD_set_ne A4,getD_set_ne A4];exact h6 m A4
    ·rw[FH,HB<|BM _,Ie (by rw[Jq];omega),FH,HB<|BM _,Ie A4];exact Jv
   ·have hd:=BQ hd;have hs0:s=0:=A4;subst hs0;have atD:hi=0:=by rw[Int.pow_zero] at b6;omega
    subst atD;refine hk _ ⟨KI h1 _ ⟨A4,A4⟩,by simpa using h2,?_,?_,?_⟩
    ·rw[getD_set_ne A4,h6 _ A4];exact ps
    ·intro m hm;rw[getD_set_ne A4];exact h6 m A4
    ·have e2:(o.set n<|lo+o.getD n 0).getD (n+1) 0=0:=by rw[getD_set_ne A4,h6 _ A4]
     rw[FH,e2,FH,HB<|BM _,Ie A4];exact Jv
 ·have hc:=BQ hc;have H9:n=a.length:=A4;subst H9;refine AU ⟨h1,h2,?_⟩;rw[Cd (l:=o) A4,Cd (l:=a) A4] at h7;exact h7
def j7{m:Int}(hP:0<P)(hU:UL<P)(hV:0<=VL)(hm:0<=m)(h:X+1<=m*Y):UL+P*X<m*(VL+P*Y):=by
 have h1:=Ey h<|EM hP
 rw[Ct,LY] at h1;have h2:0<=m*VL:=Ky hm hV;rw[Ct,GC m P Y];omega
theorem an1{r:Int}(e:q*v1+r=U2)(h:BB*r+u0<q*v0):(u0+BB*U2)+1<=q*(v0+BB*v1):=by grind
def an4{r:Int}(e:q*v1+r=U2)(hr:r<v1)(hu:u0<BB)(hq:0<=q)(hv:0<=v0):(u0+BB*U2)+1<=(q+1)*(v0+BB*v1):=by
 rw[Ct,GC _ BB v1,<-e,HY q 1 v1,Ho];have:0<=(q+1)*v0:=Ky A4 hv;unfold BB at*;omega
def an7{R:Int}(e:q*v1+R=U2)(hq:0<=q/\q<BB)(hR:0<=R)(I2:0<=v0/\v0<BB)(hu0:0<=u0)(hv1:BB<=2*v1)(h:BB<=R\/q*v0<=BB*R+u0)
 (hP:0<P)(hU:0<=UL)(hV:VL<P)(hV0:0<=VL):(q-1)*(VL+P*(v0+BB*v1))<=UL+P*(u0+BB*U2):=by
 have hY:q*(v0+BB*v1)<=u0+BB*U2:=by
  rw[Ct,GC q BB v1,<-e,Ct];have:q*v0<=BB*R+u0:=by
   rcases h with h|h
   ·have:q*v0<=(BB-1)*(BB-1):=PI A4 A4 I2.1 (by unfold BB;omega);unfold BB at*;omega
   ·exact h
  omega
 have h1:=Ey hY<|EM hP
 have h2:q*VL<=BB*P:=PI A4 A4 hV0 (by unfold BB;omega);have h3:P*BB<=P*(v0+BB*v1):=Ey (by unfold BB at*;omega)<|EM hP
 rw[Tp,Ho,Ct q,GC q P];rw[EC P BB] at h3;omega
def aoe{u1 u2:Int}(hP:0<P)(hU:0<=UL)(hu0:0<=u0)(hu1:0<=u1)(hV:VL<P)(I2:v0<BB)(h:UL+P*(u0+BB*(u1+BB*u2))<BB*(VL+P*(v0+BB*v1))):u2<=v1:=by
 rcases(show v1<u2\/u2<=v1 by omega) with h'|h'
 ·exfalso;have h1:BB*(v0+BB*v1+1)<=u0+BB*(u1+BB*u2):=by unfold BB at*;omega
  have h2:=Ey h1<|EM hP
  rw[GC P BB,Ct P _ 1,LY] at h2;rw[Ct BB VL] at h;rw[Ct BB _ P] at h2;have h3:BB*VL<=BB*P:=Ey A4 (by unfold BB;omega);omega
 ·exact h'
def ahn(h:l.length=k+3):AJ l=AJ (l.take k)+Aw k*(l.getD k 0+BB*(l.getD (k+1) 0+BB*l.getD (k+2) 0)):=by
 have h1:AJ (l.take<|k+3)=AJ l:=by rw[Cd A4]
 rw[<-h1,FH,FH,FH,JO<|k+1,JO,Ct,Ct,Ct,GC (Aw k) BB,GC (Aw k) BB,GC (Aw k) BB,Ei,Ei,Ei];omega
def aho(h:l.length=k+2):AJ l=AJ (l.take k)+Aw k*(l.getD k 0+BB*l.getD (k+1) 0):=by
 have h1:AJ (l.take<|k+2)=AJ l:=by rw[Cd A4]
 rw[<-h1,FH,FH,JO,Ct,GC (Aw k) BB,Ei];omega
def toNat_succ'(n:Nat):(((n:Nat):Int)+1).toNat=n+1:=by omega
theorem akR{u v:A3 Int}(hu:okW u)(hv:okW v)(hul:u.length=k+3)(hvl:v.length=k+2)(hk:k<2199023255552)(X9:BB<=2*v.getD (k+1) 0)(hlt:AJ u<BB*AJ v):
  Yd (λr=>okW r.1/\r.1.length=k+3/\(0<=r.2/\r.2<BB)/\AJ u=r.2*AJ v+AJ r.1/\AJ r.1<AJ v) (eF u v):=by
 unfold eF;have eU:=ahn hul;have eV:=aho hvl;obtain⟨bU0,bU1⟩:=Gd<|M3 hu k
 obtain⟨bV0,bV1⟩:=Gd<|M3 hv k
 rw[Dn,EN A4] at bU1 bV1;have hP:=LV k;have hu0:=Ft hu k;have hu1:=Ft hu<|k+1
 have hu2:=Ft hu<|k+2
 have I2:=Ft hv k;have hv1:=Ft hv<|k+1
 have hVP:0<=AJ v:=(Gd hv).1;have hU0:0<=AJ u:=(Gd hu).1;have e1:((v.length:Int)-1)=((k+1:Nat):Int):=A4;have e2:((v.length:Int)-2)=((k:Nat):Int):=A4;have e0:(v.length:Int)=((k+2:Nat):Int):=A4;rw[e1,e2,e0];have gA:∀{l:A3 Int},l.length=k+3->AA l ((k+2:Nat):Int)=some (l.getD (k+2) 0):=λh=>Bc A4
 refine A5 (gA hul)<|A5 (gA hul)<|A5 BC<|A5 (Bc A4) ?_
 have hV:AJ v<Aw (k+2):=by have:=(Gd hv).2;rw[hvl] at this;exact this
 refine Du (λs:Int×Int×Int=>(0<=s.1/\s.1<BB)/\(0<=s.2.1/\s.2.1<BB)/\(s.2.2=0\/s.2.2=1)/\s.1*v.getD (k+1) 0+(s.2.1+BB*s.2.2)=u.getD (k+1) 0+BB*u.getD (k+2) 0/\AJ u<(s.1+1)*AJ v) ?_ ?_
 rotate_left
 ·intro K2 acN;refine Ad (λhc=>?_)<|λhc=>?_
  ·have hc:=An hc;obtain⟨r,d,a1,a2,a3,a4,a5⟩:=WR (X:=u.getD (k+1) 0) (Y:=v.getD (k+1) 0) (c:=0) hu1 hv1<| .inl rfl
   refine A5 BC<|A5 (Bc A4)<|A5 (Bc A4)<|A5 BC<|A5 (Bc A4)<|A5 a1 ?_
   have abc:u.getD (k+2) 0<=v.getD (k+1) 0:=aoe hP bU0 hu0.1 hu1.1 bV1 I2.2 (by rw[<-eU,<-eV];exact hlt);refine acN _ ⟨⟨Au,by dsimp only;unfold BB;omega⟩,⟨a2,a3⟩,a4,?_,?_⟩
   ·dsimp only;unfold BB at*;omega
   ·dsimp only;exact hlt
  ·have hc:=BQ hc;refine A5 (gA hul)<|A5 (gA hul)<|A5 BC<|A5 (Bc A4)<|A5 (Bc A4)<|A5 BC<|A5 (Bc A4) ?_
   refine Az (xk ⟨hu2.1,A4⟩ hu1 hv1.2) ?_;rintro⟨q,r⟩ ⟨d1,d2,d3⟩;dsimp only at d1 d2 d3⊢;have ee:q*v.getD (k+1) 0+r=u.getD (k+1) 0+BB*u.getD (k+2) 0:=by rw[EC BB];omega
   refine acN _ ⟨d1,⟨d2.1,Au⟩,.inl rfl,Au,?_⟩;dsimp only;have:=j7 hP bU1 bV0 (show 0<=q+1 by omega)<|an4 ee d2.2 hu0.2 d1.1 I2.1
   rw[<-eU,<-eV] at this;exact this
 rintro⟨q1,r1,c1⟩ ⟨s1,s2,s3,s4,s5⟩;dsimp only at s1 s2 s3 s4 s5⊢;refine Du (λq:Int=>(0<=q/\q<BB)/\(q-1)*AJ v<=AJ u/\AJ u<(q+1)*AJ v) ?_ ?_
 rotate_left
 ·intro k41 atC;refine Ea (λs:Int×Int×Int=>(0<=s.1/\s.1<BB)/\(0<=s.2.1/\s.2.1<BB)/\(s.2.2=0\/s.2.2=1)/\s.1*v.getD (k+1) 0+(s.2.1+BB*s.2.2)=u.getD (k+1) 0+BB*u.getD (k+2) 0/\AJ u<(s.1+1)*AJ v)
   (λs:Int×Int×Int=>s.1.toNat) ?_ _ _ ⟨s1,s2,s3,s4,s5⟩ (by dsimp only;unfold BB at*;omega)
  rintro next ⟨q,r,c⟩ ⟨h1,h2,h3,h4,h5⟩ hn
  dsimp only at h1 h2 h3 h4 h5 hn⊢;have fin:(BB<=r+BB*c\/q*v.getD k 0<=BB*(r+BB*c)+u.getD k 0)->Yd _ (k41 q):=λhh=>by
   refine atC q ⟨h1,?_,h5⟩;have:=an7 (P:=Aw k) (UL:=AJ<|u.take k) (VL:=AJ<|v.take k) h4 h1 (by unfold BB at*;omega) I2 hu0.1 X9 hh hP bU0 bV1 bV0;rw[<-eU,<-eV] at this;exact this
  refine Ad (λhc=>?_)<|λhc=>?_
  ·have hc:=An hc;subst hc;obtain⟨hi,lo,m1,m2,m3,m4,m5,m6⟩:=gF h1 I2;refine A5 BC<|A5 (Bc A4)<|A5 m1 ?_
   have key:Yd (λr=>okW r.1/\r.1.length=k+3/\(0<=r.2/\r.2<BB)/\AJ u=r.2*AJ v+AJ r.1/\AJ r.1<AJ v)
     (cond (((decide<|hi<r)||((decide<|hi=r)&&(decide<|lo<=u.getD k 0)))) (
     k41 q
    ) (
     bd (AG ((k+1:Nat):Int)) λJb=>
     bd (AA v Jb) λLs=>
     bd (LX r Ls (0:Int)) λIt=>
     next (wr .u64<|q-(1:Int),It.1,It.2)
    )):=by
    refine Ad (λhd=>?_)<|λhd=>?_
    ·grind
    ·have MQ:BB*r+u.getD k 0<q*v.getD k 0:=by
      rw[m6];rw[Jr,Bool.and_eq_false_iff,Ik,Ik,Ik] at hd;unfold BB at*;omega
     obtain⟨z,d,a1,a2,a3,a4,a5⟩:=WR (X:=r) (Y:=v.getD (k+1) 0) (c:=0) h2 hv1<| .inl rfl
     refine A5 BC<|A5 (Bc A4)<|A5 a1 ?_
     have hUq:=j7 hP bU1 bV0 h1.1<|an1 (q:=q) (r:=r) (v1:=v.getD (k+1) 0) (U2:=u.getD (k+1) 0+BB*u.getD (k+2) 0) A4 MQ
     rw[<-eU,<-eV] at hUq;have hq1:1<=q:=AY;have ew:wr .u64 (q-1)=q-1:=Iu ⟨A4,A4⟩;rw[ew];refine hn _ ⟨⟨Au,Au⟩,⟨a2,a3⟩,a4,?_,?_⟩ Au
     ·grind
     ·grind
   have gO:∀{g:Bool} {e:A9 Int} {x:Int} {K:Int->A9 (A3 Int×Int)} {R:A3 Int×Int->Prop},e=some x->(g=true->Yd R (K x))->(g=false->Yd R (K 0))->Yd R (Aq g 0 e K):=λh a b=>Hb (λhg=>⟨_,h,a hg⟩) b
   refine gO BC (λhg=>gO (Bc A4) (λkF=>gO (Bc A4) (λhg2=>key) (λh=>by rw[hg] at h;cases h)) (λh=>by rw[hg] at h;cases h))<|λhg=>?_
   refine Hb (λh=>by rw[hg] at h;cases h) (λ_=>Hb (λh=>by rw[hg] at h;cases h)<|λ_=>?_);have hgd:(decide (hi<r)||(decide (hi=r)&&decide (lo<=(0:Int))))=(decide (hi<r)||(decide (hi=r)&&decide (lo<=u.getD k 0))):=by
    cases ha:decide (hi<r)
    ·cases hb:decide (hi=r)
     ·rfl
     ·rw[ha,hb] at hg;exact absurd hg dcZ
    ·rfl
   dsimp only at hgd⊢;rw[hgd];exact key
  ·grind
 rintro q ⟨hq,at5,at4⟩;refine Ea (λs:A3 Int×Int×Int×Int=>okW s.1/\s.1.length=k+3/\(s.2.1=0\/s.2.1=1)/\(0<=s.2.2.1/\s.2.2.1<BB)/\0<=s.2.2.2/\s.2.2.2<=(k+2:Nat)/\(∀m,s.2.2.2.toNat<=m->s.1.getD m 0=u.getD m 0)/\
   AJ (u.take s.2.2.2.toNat)-q*AJ (v.take s.2.2.2.toNat)=AJ (s.1.take s.2.2.2.toNat)-Aw s.2.2.2.toNat*(s.2.2.1+s.2.1))
  (λs:A3 Int×Int×Int×Int=>k+2-s.2.2.2.toNat) ?_ _ _ ⟨hu,hul,.inl rfl,⟨Au,by dsimp only;unfold BB;omega⟩,Au,Au,λ_ _=>rfl,by simp[AJ]⟩ Au
 rintro next ⟨p,b,c,i⟩ ⟨h1,h2,h3,h4,h5,h6,h7,h8⟩ hn
 dsimp only at h1 h2 h3 h4 h5 h6 h7 h8 hn⊢;obtain⟨n,rfl⟩:=F8 h5;simp only[Ch,MF] at*;refine Ad (λhc=>?_)<|λhc=>?_
 ·have hc:=An hc;obtain⟨hi,lo,m1,m2,m3,m4,m5,m6⟩:=gF hq<|Ft hv n
  obtain⟨z,d,a1,a2,a3,a4,a5⟩:=WR (X:=lo) (Y:=c) (c:=0) ⟨m4,m5⟩ h4<| .inl rfl
  obtain⟨y,b',b1,b2,b3,b4,b5⟩:=pF (X:=p.getD n 0) (Y:=z) (c:=b) (Ft h1 n) ⟨a2,a3⟩ h3;refine A5 (Bc A4)<|A5 m1<|A5 a1<|A5 (Bc A4)<|A5 (Bc A4)<|A5 b1<|A5 (Bc A4)<|A5 (Bc A4)<|A5 BC ?_
  have ew:wr .u64 (hi+d)=hi+d:=Iu ⟨A4,by unfold BB at*;omega⟩;dsimp only;rw[ew];refine hn _ ⟨KI h1 _ ⟨b2,b3⟩,by simpa using h2,b4,⟨Au,by dsimp only;unfold BB at*;omega⟩,Au,Au,?_,?_⟩ Au
  ·grind
  ·simp only[toNat_succ',Ch];rw[FH u,FH v,FH,HB<|BM _,Ie A4,<-h7 n (BM _),JO];have k1:q*(AJ (v.take n)+Aw n*v.getD n 0)=q*AJ (v.take n)+Aw n*(q*v.getD n 0):=by rw[Ct,GC q]
   have k2:Aw n*(p.getD n 0)-Aw n*(q*v.getD n 0)-Aw n*(c+b)=Aw n*y-BB*Aw n*(hi+d+b'):=AY;rw[k1];omega
 ·have hc:=BQ hc;have H9:n=k+2:=A4;subst H9;obtain⟨y,b',b1,b2,b3,b4,b5⟩:=pF (X:=p.getD (k+2) 0) (Y:=c) (c:=b) (Ft h1 _) h4 h3;refine A5 (gA h2)<|A5 (gA h2)<|A5 b1<|A5 (gA h2)<|A5 (gA h2) ?_
  simp only[Ch];have okq:=KI h1 (k+2) ⟨b2,b3⟩;have hlen:(p.set (k+2) y).length=k+3:=by rw[Jq];exact h2
  have eW:AJ (p.set (k+2) y)=AJ (p.take<|k+2)+Aw (k+2)*y:=by
   have:AJ ((p.set (k+2) y).take<|k+3)=AJ (p.set (k+2) y):=by rw[Cd A4]
   rw[<-this,FH,HB<|BM _,Ie A4]
  have eU2:AJ u=AJ (u.take<|k+2)+Aw (k+2)*p.getD (k+2) 0:=by
   have:AJ (u.take<|k+3)=AJ u:=by rw[Cd A4]
   rw[<-this,FH,h7 _<|BM _]
  rw[Cd (l:=v) A4] at h8;have main:AJ u-q*AJ v=AJ (p.set (k+2) y)-Aw (k+3)*b':=by
   have k2:Aw (k+2)*p.getD (k+2) 0-Aw (k+2)*(c+b)=Aw (k+2)*y-BB*Aw (k+2)*b':=AY;rw[eW,eU2,show k+3=(k+2)+1 from rfl,JO<|k+2];omega
  have bW:=Gd okq;rw[hlen] at bW
  generalize hR:p.set (k+2) y=R at*
  rw[HY,Ho] at at4;rw[Tp,Ho] at at5;refine Ad (λhd=>?_)<|λhd=>?_
  ·have hd:=An hd;have hd:b'=0:=hd;rw[hd,Ti] at main;refine AU ⟨okq,hlen,hq,?_,?_⟩
   ·dsimp only;omega
   ·dsimp only;omega
  ·have hd:=BQ hd;have hd:b'=1:=AY;rw[hd,LY] at main;have hq1:1<=q:=AY;refine Ea (λs:A3 Int×Int×Int=>okW s.1/\s.1.length=k+3/\(s.2.1=0\/s.2.1=1)/\0<=s.2.2/\s.2.2<=(k+2:Nat)/\(∀m,s.2.2.toNat<=m->s.1.getD m 0=R.getD m 0)/\
     AJ (s.1.take s.2.2.toNat)+Aw s.2.2.toNat*s.2.1=AJ (R.take s.2.2.toNat)+AJ (v.take s.2.2.toNat))
    (λs:A3 Int×Int×Int=>k+2-s.2.2.toNat) ?_ _ _ ⟨okq,hlen,.inl rfl,Au,Au,λ_ _=>rfl,by simp[AJ]⟩ Au
   rintro Wn ⟨t,e,j⟩ ⟨g1,g2,g3,g4,g5,g6,g7⟩ hn3;dsimp only at g1 g2 g3 g4 g5 g6 g7 hn3⊢;obtain⟨m,rfl⟩:=F8 g4;simp only[Ch,MF] at*;refine Ad (λhf=>?_)<|λhf=>?_
   ·have hf:=An hf;obtain⟨z,d,a1,a2,a3,a4,a5⟩:=WR (X:=t.getD m 0) (Y:=v.getD m 0) (c:=e) (Ft g1 m) (Ft hv m) g3;refine A5 (Bc A4)<|A5 (Bc A4)<|A5 (Bc A4)<|A5 a1<|A5 (Bc A4)<|A5 (Bc A4)<|A5 BC ?_
    refine hn3 _ ⟨KI g1 _ ⟨a2,a3⟩,by simpa using g2,a4,Au,Au,?_,?_⟩ Au
    ·grind
    ·simp only[toNat_succ',Ch];rw[FH R,FH v,FH,HB<|BM _,Ie A4,<-g6 m (BM _),JO];have k2:Aw m*t.getD m 0+Aw m*v.getD m 0+Aw m*e=Aw m*z+BB*Aw m*d:=AY;omega
   ·have hf:=BQ hf;have hm':m=k+2:=A4;subst hm';have hT:=Ft g1<|k+2
    refine A5 (gA g2)<|A5 (gA g2)<|A5 (gA g2)<|A5 (gA g2)<|AU ?_
    have ew:wr .u64 (q-1)=q-1:=Iu ⟨A4,A4⟩;have ew2:wr .u64 (t.getD (k+2) 0+e)=(t.getD (k+2) 0+e)%BB:=wrW _;rw[ew,ew2];have hm0:=Ld (t.getD (k+2) 0+e) (show BB≠0 by unfold BB;omega);have hm1:=L1 (t.getD (k+2) 0+e) (show 0<BB by unfold BB;omega);have hdm:=OW (t.getD (k+2) 0+e) BB;have ht0:(t.getD (k+2) 0+e)/BB=0\/(t.getD (k+2) 0+e)/BB=1:=by unfold BB at*;omega
    generalize hM:(t.getD (k+2) 0+e)%BB=M at*
    generalize hT':(t.getD (k+2) 0+e)/BB=T at*
    have okz:=KI g1 (k+2) ⟨hm0,hm1⟩;have hlz:(t.set (k+2) M).length=k+3:=by rw[Jq];exact g2
    have eZ:AJ (t.set (k+2) M)=AJ (t.take<|k+2)+Aw (k+2)*M:=by
     have:AJ ((t.set (k+2) M).take<|k+3)=AJ (t.set (k+2) M):=by rw[Cd A4]
     rw[<-this,FH,HB<|BM _,Ie A4]
    have eR:AJ R=AJ (R.take<|k+2)+Aw (k+2)*t.getD (k+2) 0:=by
     have:AJ (R.take<|k+3)=AJ R:=by rw[Cd A4]
     rw[<-this,FH,g6 _<|BM _]
    rw[Cd (l:=v) A4] at g7;have bZ:=Gd okz;rw[hlz] at bZ;have sum:AJ (t.set (k+2) M)+Aw (k+3)*T=AJ R+AJ v:=by
     have k2:Aw (k+2)*t.getD (k+2) 0+Aw (k+2)*e=Aw (k+2)*M+BB*Aw (k+2)*T:=AY;rw[eZ,eR,show k+3=(k+2)+1 from rfl,JO<|k+2];omega
    have hpp:Aw (k+2)<=Aw (k+3):=fM A4;have hT1:T=1:=AY;rw[hT1,LY] at sum;refine⟨okz,hlz,⟨Au,Au⟩,?_,?_⟩
    ·grind
    ·dsimp only;omega
def YL{A B r:Int}(h:A=q*B+r)(h0:0<=r)(h1:r<B):q=A/B/\r=A%B:=by
 have hB:B≠0:=A4;subst h;constructor
 ·rw[Int.add_comm,Int.add_mul_ediv_right _ _ hB,Int.ediv_eq_zero_of_lt h0 h1];omega
 ·rw[Int.add_comm,Int.add_mul_emod_self_right,Tt h0 h1]
theorem O8(h:n<l.length):l.drop n=l.getD n 0::l.drop (n+1):=by simp_all
def dW(h:n<l.length)(x:Int):(l.set n x).drop n=x::l.drop (n+1):=by
 rw[O8 (by rw[Jq];exact h),Ie h,gk A4]
def afS(hb:okW b)(hbl:b.length=k+2)(hs:s<=63)(h1:BB<=2*(b.getD (k+1) 0*2^s))(h2:b.getD (k+1) 0*2^s<BB)
 (hw:Norm w)(hv:AJ w=AJ b*2^s):w.length=k+2/\BB<=2*w.getD (k+1) 0/\AJ w<Aw (k+2)/\Aw (k+1)*2^s<=AJ w:=by
 have ps:=two_pos s;have hP:=LV<|k+1
 have IX:AJ b=AJ (b.take<|k+1)+Aw (k+1)*b.getD (k+1) 0:=by
  have:AJ (b.take<|k+2)=AJ b:=by rw[Cd A4]
  rw[<-this,FH]
 obtain⟨t0,t1⟩:=Gd<|M3 hb<|k+1
 rw[Dn,EN A4] at t1;have acP:=yW (s:=s) (lo:=b.getD (k+1) 0*2^s) A4 (Int.mul_emod_left _ _) h2;have hb0:=Ft hb<|k+1
 have hbt:1<=b.getD (k+1) 0:=by
  rcases(show 1<=b.getD (k+1) 0\/b.getD (k+1) 0=0 by omega) with h|h
  ·exact h
  ·rw[h,Int.zero_mul] at h1;unfold BB at h1;omega
 generalize b.getD (k+1) 0=t at*
 generalize AJ (b.take<|k+1)=L at*
 have e:AJ w=L*2^s+Aw (k+1)*(t*2^s):=by rw[hv,IX,HY,Ei]
 have hL0:0<=L*2^s:=Ky t0<|EM ps
 have hL1:L*2^s<Aw (k+1)*2^s:=Int.mul_lt_mul_of_pos_right t1 ps;have hg2:=Ey acP<|EM hP
 rw[Ct] at hg2;have e3:Aw (k+2)=Aw (k+1)*BB:=by rw[JO<|k+1,EC]
 have hlt:AJ w<Aw (k+2):=by rw[e,e3];omega
 have UY:Aw (k+1)*2^s<=AJ w:=by
  have h3:Aw (k+1)*(1*2^s)<=Aw (k+1)*(t*2^s):=Ey (MH hbt<|EM ps)<|EM hP
  rw[Ho] at h3;omega
 have aqp:w.length<=k+2:=hw.len hlt;have UO:k+1<w.length:=by
  rcases Hp (k+1) w.length with h|h
  ·exact h
  ·have h5:=(Gd hw.1).2;have h6:=fM h;have h7:Aw (k+1)*1<=Aw (k+1)*2^s:=Ey A4<|EM hP
   omega
 refine⟨A4,?_,hlt,UY⟩;have hlen:w.length=k+2:=A4;have hsw:AJ w=AJ (w.take<|k+1)+Aw (k+1)*w.getD (k+1) 0:=by
  have:AJ (w.take<|k+2)=AJ w:=by rw[Cd A4]
  rw[<-this,FH]
 obtain⟨q0,q1⟩:=Gd<|M3 hw.1<|k+1
 rw[Dn,EN A4] at q1
 generalize w.getD (k+1) 0=z at*
 rcases(show BB<=2*z\/2*(z+1)<=BB by unfold BB;omega) with h|h
 ·exact h
 ·exfalso;have h8:Aw (k+1)*(2*(z+1))<=Aw (k+1)*(2*(t*2^s)):=Ey A4<|EM hP
  rw[GC,GC _ 2,Ct,LY] at h8;omega
def alg(h:okW l)(n:Nat):AJ (l.take n)<=AJ l:=by
 rcases Hp n l.length with h1|h1
 ·rw[RP l n A4];have:=Ky (EM<|LV n) (Gd<|Rf h n).1;omega
 ·rw[Cd h1];exact Int.le_refl _
def drop_zero(h:okW l)(hl:n<=l.length)(hv:AJ l<Aw n):AJ (l.drop n)=0:=by
 have h1:=RP l n hl;have h2:=(Gd<|Rf h n).1;have h3:=(Gd<|M3 h n).1;rcases(show AJ (l.drop n)=0\/1<=AJ (l.drop n) by omega) with h4|h4
 ·exact h4
 ·have:=Ey h4 (EM<|LV n);omega
def agx(hs0:0<s)(hs:s<=63)(hx:0<=x/\x<BB)(hy:0<=y/\y<BB):
  ∃lo:Int,MO .u64 y ((64-s:Nat):Int)=some lo/\0<=GY .or .u64 (x/2^s) lo/\GY .or .u64 (x/2^s) lo<BB/\GY .or .u64 (x/2^s) lo*2^s=x-x%2^s+BB*(y%2^s):=by
 have h2:=Xv (s:=s) A4;have p1:=two_pos s;have p2:=two_pos<|64-s
 have r0:=Ld y (show(2:Int)^s≠0 by omega);have r1:=L1 y p1;have elo:y*2^(64-s)%BB=2^(64-s)*(y%2^s):=by
  rw[<-h2,EC y,EC<|2^s,Int.mul_emod_mul_of_pos _ _ p2]
 refine⟨2^(64-s)*(y%2^s),by rw[jT A4,elo],?_⟩;have l0:0<=2^(64-s)*(y%2^s):=Ky (EM p2) r0;have d0:0<=x/2^s:=Kz hx.1<|EM p1
 have d1:x/2^s<2^(64-s):=by
  refine ZQ p1 ?_;rw[EC,h2];exact hx.2
 have hl:2^(64-s)*(y%2^s)+2^(64-s)<=BB:=by
  have:=Ey (show y%2^s+1<=2^s by omega)<|EM p2
  rw[Ct,LY,EC _<|2^s,h2] at this;exact this
 rw[z6 (s:=64-s) l0 d0 d1 (Int.mul_emod_right _ _) A4];refine⟨A4,A4,?_⟩;have e:=OW x<|2^s
 rw[HY,gh,EC<|2^(64-s),h2,EC<|x/2^s];omega
def wL(ha:Norm a)(hb:Norm b)(h0:b≠[])(hla:a.length<2199023255552)(hlb:b.length<2199023255552):
  Yd (λr=>(Norm r.1/\AJ r.1=AJ a/AJ b)/\Norm r.2/\AJ r.2=AJ a%AJ b) (YD a b):=by
 unfold YD;have hbl:0<b.length:=by cases b;exact absurd rfl h0;simp
 have ha0:=(Gd ha.1).1;refine Az (te ha hb A4 A4) λc hc=>?_
 refine Ad (λhlt=>?_)<|λhlt=>?_
 ·have hlt:=An hlt;have hv:AJ a<AJ b:=by rcases hc with h|h|h<;>omega
  exact AU ⟨⟨Norm.nil,by rw[Int.ediv_eq_zero_of_lt ha0 hv];rfl⟩,ha,by rw[Tt ha0 hv]⟩
 have hlt:=BQ hlt;have hv:AJ b<=AJ a:=by rcases hc with h|h|h<;>omega
 have avF:b.length<=a.length:=by
  rcases Hp a.length b.length with h|h
  ·have:=YM ha.1 hb h;omega
  ·exact h
 refine Ad (λh1=>?_)<|λh1=>?_
 ·
  have h1:=An h1;have hl1:b.length=1:=A4;obtain⟨y,rfl⟩:∃y,b=[y]:=by
   cases b with
   |nil=>cases hl1
   |cons x t=>cases t with
    |nil=>exact⟨x,rfl⟩
    |cons _ _=>simp at hl1
  have hy:0<y/\y<BB:=by
   have:=P9.1 hb.1;have h2:y≠0:=λe=>hb.2 (by rw[e];rfl)
   omega
  have eV:AJ [y]=y:=by simp[AJ]
  rw[eV] at hv⊢;refine A5 (Qi A4 A4 A4)<|A5 BC ?_
  refine Ea (λs:A3 Int×Int×Int=>okW s.1/\s.1.length=a.length/\(0<=s.2.1/\s.2.1<y)/\ -1<=s.2.2/\s.2.2<a.length/\AJ (a.drop (s.2.2+1).toNat)=AJ (s.1.drop (s.2.2+1).toNat)*y+s.2.1)
   (λs:A3 Int×Int×Int=>(s.2.2+1).toNat) ?_ _ _ ⟨V9 _,by simp only[NT];omega,⟨Au,Au⟩,Au,Au,?_⟩ Au
  rotate_left
  ·have:((a.length:Int)-1+1).toNat=a.length:=A4;dsimp only;rw[this,Rz,Mo AS];simp[AJ]
  rintro next ⟨o,r,i⟩ ⟨g1,g2,g3,g4,g5,g6⟩ hn
  dsimp only at g1 g2 g3 g4 g5 g6 hn⊢;refine Ad (λhp=>?_)<|λhp=>?_
  ·have hp:=An hp;obtain⟨n,rfl⟩:=F8 hp;simp only[toNat_succ',Ch,MF] at*;refine A5 (Bc A4)<|A5 (show AA [y] 0=some y from rfl) ?_
   refine Az (xk g3 (Ft ha.1 n) hy.2) ?_;rintro⟨q,z⟩ ⟨d1,d2,d3⟩;dsimp only at d1 d2 d3⊢;refine A5 (Bc A4)<|A5 (Bc A4)<|A5 BC ?_
   refine hn _ ⟨KI g1 _ d1,by simpa using g2,d2,Au,Au,?_⟩ Au;have e:(((n:Nat):Int)-1+1).toNat=n:=A4;simp only[e];rw[O8 A4,dW A4,N6,N6,g6,HY,Ct,Ei,EC BB r];omega
  ·have hp:=BQ hp;have hi:i= -1:=A4;subst hi;have g6:AJ a=AJ o*y+r:=g6;refine Az (Rh g1 A4) λw ⟨w1,w2,_⟩=>?_
   refine Az (Rh (a:=[r]) (P9.2 ⟨⟨g3.1,A4⟩,Z0⟩) AS) λz ⟨z1,z2,_⟩=>?_
   have er:AJ [r]=r:=by simp[AJ]
   obtain⟨u1,u2⟩:=YL g6 g3.1 g3.2;exact AU ⟨⟨w1,by dsimp only;rw[w2,u1]⟩,z1,by dsimp only;rw[z2,er,u2]⟩
 ·
  have h1:=BQ h1;obtain⟨k,hk⟩:∃k,b.length=k+2:=⟨b.length-2,A4⟩;have hbt:0<b.getD (k+1) 0:=by
   have h3:=(Ft hb.1<|k+1).1;rcases(show 0<b.getD (k+1) 0\/b.getD (k+1) 0=0 by omega) with h|h
   ·exact h
   ·refine absurd ?_ hb.2;rw[List.getLast?_eq_getElem?,show b.length-1=k+1 from by omega];rw[IF] at h;rw[Gy A4] at h⊢;simpa using h
  obtain⟨s,l1,l2,l3,l4⟩:=aas hbt (Ft hb.1<|k+1).2;have e1:((b.length:Int)-1)=((k+1:Nat):Int):=A4;rw[e1];refine A5 BC<|A5 (Bc A4)<|A5 l1 ?_
  refine Az (vd hb.1 l2 A4) λw0 ⟨p1,p2,p3⟩=>?_
  refine Az (Rh p1 A4) λv ⟨v1,v2,_⟩=>?_
  rw[p3] at v2;obtain⟨v3,v4,v5,v6⟩:=afS hb.1 hk l2 l3 l4 v1 v2;refine Az (vd ha.1 l2 A4) λu0 ⟨q1,q2,q3⟩=>?_
  obtain⟨d,hd⟩:∃d,a.length=d+(k+2):=⟨a.length-(k+2),A4⟩;have e2:((a.length:Int)-(v.length:Int))=((d:Nat):Int):=A4;rw[e2,v3];refine A5 BC<|A5 BC<|A5 (Qi A4 A4 A4)<|A5 BC ?_
  have ps:=two_pos s;have hV0:0<AJ v:=by
   have:=Int.mul_pos (LV<|k+1) ps;omega
  refine Ea (λt:A3 Int×A3 Int×Int=>okW t.1/\t.1.length=a.length+1/\okW t.2.1/\t.2.1.length=d+1/\ -1<=t.2.2/\t.2.2<=d/\AJ (t.1.drop (t.2.2+1).toNat)<AJ v/\
    AJ a*2^s=AJ v*(Aw (t.2.2+1).toNat*AJ (t.2.1.drop (t.2.2+1).toNat))+AJ t.1)
   (λt:A3 Int×A3 Int×Int=>(t.2.2+1).toNat) ?_ _ _ ⟨q1,q2,V9 _,by simp only[NT];omega,Au,Au,?_,?_⟩ Au
  rotate_left
  ·dsimp only;rw[toNat_succ'];have h3:=RP u0 (d+1) A4;have h4:=(Gd<|M3 q1<|d+1).1;rw[q3] at h3;have h5:=(Gd ha.1).2;have h6:AJ a*2^s<Aw a.length*2^s:=Int.mul_lt_mul_of_pos_right h5 ps;rw[hd,show d+(k+2)=(d+1)+(k+1) from by omega,fg,Ei] at h6;have h7:AJ (u0.drop<|d+1)<Aw (k+1)*2^s:=by
    rcases(show AJ (u0.drop<|d+1)<Aw (k+1)*2^s\/Aw (k+1)*2^s<=AJ (u0.drop<|d+1) by omega) with h|h
    ·exact h
    ·have:=Ey h (EM<|LV<|d+1);omega
   omega
  ·dsimp only;rw[toNat_succ',Mo AS,<-q3];simp[AJ]
  rintro next ⟨u,o,j⟩ ⟨g1,g2,g3,g4,g5,g6,g7,g8⟩ hn
  dsimp only at g1 g2 g3 g4 g5 g6 g7 g8 hn⊢;refine Ad (λhp=>?_)<|λhp=>?_
  ·have hp:=An hp;obtain⟨n,rfl⟩:=F8 hp;simp only[toNat_succ',Ch,MF] at*;have e3:(((n:Nat):Int)+((k+2:Nat):Int))=((n+(k+2):Nat):Int):=A4;have e4:(((n+(k+2):Nat):Int)+1)=((n+(k+3):Nat):Int):=A4;have e5:(((n+(k+3):Nat):Int)-((n:Nat):Int)).toNat=k+3:=A4;rw[e3];refine A5 BC ?_;rw[e4];refine A5 BC<|Yd.gC ?_ ?_
   ·rw[B0 (show(0:Int)<=(n:Int) by omega),B0 (show((n:Nat):Int)<((n+(k+3):Nat):Int) by omega),B0 (show((n+(k+3):Nat):Int)<=(u.length:Int) by omega)]
    rfl
   rw[e5];have okd:=Rf g1 n;have hdl:(u.drop n).length=a.length+1-n:=by rw[IC,g2]
   have hw:((u.drop n).take<|k+3).length=k+3:=by rw[Dn];omega
   have hdn:u.drop n=u.getD n 0::u.drop (n+1):=O8 A4;have hun:=Ft g1 n;have UY:AJ ((u.drop n).take<|k+3)<BB*AJ v:=by
    rw[hdn,show k+3=(k+2)+1 from rfl,gp,N6];have h3:=alg (Rf g1<|n+1)<|k+2
    unfold BB at*;omega
   have rJ:AJ (u.drop<|n+(k+3))=0:=by
    have:=drop_zero (Rf g1<|n+1) (n:=k+2) (by rw[IC];omega) A4;rw[FW] at this;rw[show n+(k+3)=n+1+(k+2) from by omega];exact this
   refine Az (akR (k:=k) (M3 okd _) v1.1 hw v3 A4 v4 UY) ?_;rintro⟨w,q⟩ ⟨s1,s2,s3,s4,s5⟩;dsimp only at s1 s2 s3 s4 s5⊢;refine Yd.gC ?_ ?_
   ·rw[s2,show Nat.blt 0 (k+3)=true from IE A4,show Nat.ble (n+(k+3)) u.length=true from IE A4,Nat.beq_refl]
    rfl
   refine A5 (Bc A4)<|A5 (Bc A4)<|A5 BC ?_
   have okt:=M3 g1 n;have okz:=Rf g1<|n+(k+3)
   have Jf:(u.take n).length=n:=by rw[Dn];omega
   have e7:(((n:Nat):Int)-1+1).toNat=n:=A4;have evu:AJ u=AJ (u.take n)+Aw n*AJ ((u.drop n).take<|k+3):=by
    rw[RP u n A4,RP (u.drop n) (k+3) A4,FW,rJ,Ti,Vv]
   have evn:AJ (u.take n++w++u.drop (n+(k+3)))=AJ (u.take n)+Aw n*AJ w:=by
    rw[VK,VK,rJ,Ti,Vv,Jf]
   have edn:(u.take n++w++u.drop (n+(k+3))).drop n=w++u.drop (n+(k+3)):=by
    rw[ID,NM,Mo A4,Jf];simp
   refine hn _ ⟨wK.2 ⟨wK.2 ⟨okt,s1⟩,okz⟩,?_,KI g3 _ s3,by simpa using g4,Au,Au,?_,?_⟩ Au
   ·dsimp only;rw[ED,ED,Jf,s2,IC,g2];omega
   ·dsimp only;rw[e7,edn,VK,rJ,Ti,Vv];exact s5
   ·dsimp only;rw[e7,evn,dW A4,N6,g8,evu,s4,JO];have k1:AJ v*(Aw n*(q+BB*AJ (o.drop<|n+1)))=Aw n*(q*AJ v)+AJ v*(BB*Aw n*AJ (o.drop<|n+1)):=by
     rw[Ct,Ct,GC<|AJ v,EC (AJ v) q,GC (Aw n) BB,Ei BB]
    rw[k1,Ct];omega
  ·have hp:=BQ hp;have hj:j= -1:=A4;subst hj;have g7:AJ u<AJ v:=g7;have g8:AJ a*2^s=AJ v*(Aw 0*AJ o)+AJ u:=g8;rw[Yj,Ho] at g8;have hu0:0<=AJ u:=(Gd g1).1;have hue:AJ u=2^s*(AJ a-AJ b*AJ o):=by
    rw[Me,EC _<|AJ a,g8,v2,EC<|AJ b,Ei];omega
   have arB:∃c:Int,BB=2^s*c:=⟨_,(Xv (s:=s) A4).symm⟩;have asx:u.getD 0 0%2^s=0:=by
    obtain⟨c,hc⟩:=arB;have h3:u=u.getD 0 0::u.drop 1:=O8 (n:=0) (l:=u) A4;have h4:AJ u=u.getD 0 0+BB*AJ (u.drop 1):=by rw[<-N6,<-h3]
    have h5:u.getD 0 0=2^s*(AJ a-AJ b*AJ o-c*AJ (u.drop 1)):=by
     rw[Me,<-hue,<-Ei,<-hc];omega
    rw[h5,Int.mul_emod_right]
   refine Ea (λt:A3 Int×Int=>okW t.1/\t.1.length=a.length+1/\0<=t.2/\t.2<=(k+2:Nat)/\(∀m,t.2.toNat<=m->t.1.getD m 0=u.getD m 0)/\
     AJ (t.1.take t.2.toNat)*2^s=AJ (u.take t.2.toNat)+Aw t.2.toNat*(u.getD t.2.toNat 0%2^s))
    (λt:A3 Int×Int=>k+2-t.2.toNat) ?_ _ _ ⟨g1,g2,Au,Au,λ_ _=>rfl,?_⟩ Au
   rotate_left
   ·show AJ (u.take 0)*2^s=AJ (u.take 0)+Aw 0*(u.getD 0 0%2^s);rw[asx];simp[AJ]
   rintro HG ⟨r,i⟩ ⟨f1,f2,f3,f4,f5,f6⟩ IY;dsimp only at f1 f2 f3 f4 f5 f6 IY⊢;obtain⟨m,rfl⟩:=F8 f3;simp only[Ch,MF] at*;refine Ad (λhf=>?_)<|λhf=>?_
   ·have hf:=An hf;refine Du (λz:A3 Int=>okW z/\z.length=a.length+1/\(∀x,m+1<=x->z.getD x 0=u.getD x 0)/\AJ (z.take<|m+1)*2^s=AJ (u.take<|m+1)+Aw (m+1)*(u.getD (m+1) 0%2^s)) ?_ ?_
    ·rintro z ⟨z1,z2,z3,z4⟩;refine A5 BC<|IY _ ⟨z1,z2,Au,Au,?_⟩ Au
     dsimp only;rw[toNat_succ'];exact⟨z3,z4⟩
    ·intro k69 acM;have hx:=Ft f1 m;have hx2:=Ft f1<|m+1
     have GR:0<=r.getD m 0/2^s/\r.getD m 0/2^s<BB:=⟨Kz hx.1<|EM ps,Int.lt_of_le_of_lt (Ry _ hx.1) hx.2⟩;refine A5 (Bc A4)<|A5 (Bc A4)<|A5 (jS A4)<|A5 (Bc A4)<|A5 (Bc A4) ?_
     have e8:(((m:Nat):Int)+1)=((m+1:Nat):Int):=A4;have Jv:∀z:Int,z*2^s=r.getD m 0-r.getD m 0%2^s+BB*(r.getD (m+1) 0%2^s)->(AJ (r.take m)+Aw m*z)*2^s=AJ (u.take<|m+1)+Aw (m+1)*(u.getD (m+1) 0%2^s):=by
      intro z hz;rw[<-f5 (m+1) A4,FH u,<-f5 m (BM _),HY,f6,Ei,hz,<-f5 m (BM _),JO,Ct,Me,GC (Aw m) BB,Ei BB];omega
     refine Hb (λhg=>?_)<|λhg=>?_
     ·have hg:=An hg;refine⟨_,EZ ⟨A4,A4⟩,Ad (λhh=>?_)<|λhh=>?_⟩
      ·obtain⟨lo,b1,b2,b3,b4⟩:=agx (s:=s) (x:=r.getD m 0) (y:=r.getD (m+1) 0) A4 l2 hx hx2;have MP:(r.set m<|r.getD m 0/2^s).length=a.length+1:=by rw[Jq];exact f2
       have e9:((64:Int)-(s:Int))=((64-s:Nat):Int):=A4;rw[e8,e9];refine A5 (Bc A4)<|A5 (Bc A4)<|A5 BC<|A5 (Bc A4)<|A5 (Bc A4)<|A5 BC ?_
       rw[getD_set_ne (show m+1≠m by omega),Ie (show m<r.length by omega)];refine A5 b1<|A5 (Bc A4)<|A5 (Bc A4) ?_
       refine acM _ ⟨KI (KI f1 _ GR) _ ⟨b2,b3⟩,by simpa using f2,?_,?_⟩
       ·intro x hxm;rw[getD_set_ne A4,getD_set_ne A4];exact f5 x A4
       ·rw[FH,HB<|BM _,Ie A4,HB<|BM _];exact Jv _ b4
      ·rw[B0 hg,KL] at hh;have:=BQ hh;simp only[Jq] at this;omega
     ·have hg:=BQ hg;have hs0:s=0:=A4;subst hs0;refine Ad (λhh=>?_)<|λhh=>?_
      ·exact absurd (An (EH hh).1) hg
      ·refine acM _ ⟨KI f1 _ GR,by simpa using f2,?_,?_⟩
       ·intro x hxm;rw[getD_set_ne A4];exact f5 x A4
       ·rw[FH,HB<|BM _,Ie A4];refine Jv _ ?_;simp[Int.emod_one]
   ·have hf:=BQ hf;have hm':m=k+2:=A4;subst hm';have hz:=drop_zero g1 (n:=k+2) A4 A4;have hz2:u.getD (k+2) 0=0:=aeT hz g1<|BM _
    have hu:AJ u=AJ (u.take<|k+2):=by
     rw[RP u (k+2) A4,hz];omega
    rw[hz2,Int.zero_emod,Ti,Vv,<-hu,hue,EC] at f6;have f7:AJ (r.take<|k+2)=AJ a-AJ b*AJ o:=Int.eq_of_mul_eq_mul_left A4 f6;have f8:AJ (r.take<|k+2)<AJ b:=by
     have h3:2^s*(AJ a-AJ b*AJ o)<2^s*AJ b:=by rw[<-hue,EC,<-v2];exact g7
     rw[f7];exact iA h3<|EM ps
    refine Az (Rh g3 A4) λx ⟨x1,x2,_⟩=>?_
    refine A5 (EW A4 A4 A4) ?_;refine Az (Rh (Rf (M3 f1 _) _) (by rw[IC,Dn];omega)) λz ⟨z1,z2,_⟩=>?_
    have z3:AJ z=AJ (r.take<|k+2):=z2;obtain⟨w1,w2⟩:=YL (A:=AJ a) (B:=AJ b) (q:=AJ o) (r:=AJ<|r.take<|k+2) (by rw[f7,EC];omega) (Gd<|M3 f1 _).1 f8;exact AU ⟨⟨x1,by dsimp only;rw[x2];exact w1⟩,z1,by dsimp only;rw[z3];exact w2⟩
def CT.norm(h:CT r z):Norm r.2:=by
 rcases h with⟨h,_⟩|⟨_,_,h1,h2,_⟩
 ·rw[h];exact Norm.nil
 ·exact⟨h1,h2⟩
theorem pz(h:2^k<=n):k<=Nat.log2 n:=by
 have h0:n≠0:=AY;exact(Nat.le_log2 h0).2 h
def pR:∀n:Nat,Aw n=((2^(64*n):Nat):Int)
 |0=>rfl
 |n+1=>by
  rw[JO,pR n,show 64*(n+1)=64+64*n from by omega,M9,NL];rfl
theorem CT.len(h:CT r z)(hz:Cn z=true):r.2.length<1099511627776:=by
 rcases h with⟨h,_⟩|⟨h0,h1,h2,h3,h4,h5⟩
 ·rw[h];simp
 ·have hl:=TJ h2 h0 h3;have hz:=F1 hz;have e:(z.natAbs:Int)=AJ r.2:=AY;rw[pR,<-e] at hl;have hl:2^(64*(r.2.length-1))<=z.natAbs:=AY;have:=pz hl;omega
def oS{n:Int}(h:DX n):VS n=some (n.natAbs:Int):=by
 unfold DX at h;unfold VS;by_cases h0:n<0
 ·rw[B0 h0];show some (wr .u64<|wr .i64<|0-n)=_;by_cases h1:n= -9223372036854775808
  ·subst h1;rfl
  ·have e1:wr .i64 (0-n)=0-n:=wrap_i64 ⟨A4,A4⟩;have e2:wr .u64 (0-n)=0-n:=wrap_u64 ⟨A4,A4⟩;rw[e1,e2]
   congr 1;omega
 ·rw[Bl h0];show some (wr .u64 n)=_;have e2:wr .u64 n=n:=wrap_u64 ⟨A4,A4⟩;rw[e2]
  congr 1;omega
theorem Q5(h:CT r z):Yd (λp=>p.1=decide (z<0)/\Norm p.2/\AJ p.2=(z.natAbs:Int)/\p.2.length<=r.2.length+1) (N2 r):=by
 unfold N2;rcases h with⟨h1,h2,h3⟩|⟨h0,h1,h2,h3,h4,h5⟩
 ·rw[h1];refine Ad (λhc=>by simp at hc)<|λ_=>?_
  rw[h2];refine Ad (λhc=>?_)<|λhc=>?_
  ·have hc:=An hc;subst hc;exact AU ⟨rfl,Norm.nil,rfl,AS⟩
  ·have hc:=BQ hc;refine A5 (oS h3) (AU ⟨rfl,⟨?_,?_⟩,by simp[AJ],AS⟩)
   ·rw[P9];unfold DX at h3;exact⟨⟨A4,by unfold BB;omega⟩,Z0⟩
   ·simp;omega
 ·have hv:=(Gd h2).1;refine Ad (λ_=>AU ⟨?_,⟨h2,h3⟩,?_,Au⟩)<|λhc=>?_
  ·grind
  ·grind
  ·grind
def TX(h:Norm w)(neg:Bool):Yd (λr=>CT r<|bif neg then -AJ w else AJ w) (P2 neg w):=by
 unfold P2;obtain⟨hw,hl⟩:=h
 match w,hw,hl with
 |[],_,_=>
  refine Ad (λ_=>AU (.inl ⟨rfl,by cases neg<;>rfl,by cases neg<;>(unfold DX;simp[AJ])⟩)) (λhc=>by simp at hc)
 |[x],hw,hl=>
  rw[P9] at hw;obtain⟨⟨hx0,hx1⟩,_⟩:=hw;have ev:AJ [x]=x:=by simp[AJ]
  have hx:x≠0:=λe=>hl (by rw[e];rfl)
  have g0:AA [x] (0:Int)=some x:=rfl;rw[ev];refine Ad (λhc=>by simp at hc)<|λ_=>?_
  refine Hb (λ_=>⟨x,g0,?_⟩) (λhc=>by simp[gd] at hc);refine Ad (λhc=>?_)<|λhc=>?_
  ·obtain⟨hc,Iq⟩:=EH hc;obtain⟨_,hc⟩:=EH hc;have hc:=An hc;subst Iq;have e1:wr .i64 x=x:=wrap_i64 ⟨A4,A4⟩;exact A5 g0 (A5 (EZ (by rw[e1];exact⟨A4,A4⟩)) (AU (.inl ⟨rfl,by rw[e1];rfl,by unfold DX;simp only[Bf];omega⟩)))
  ·refine Hb (λ_=>⟨x,g0,?_⟩) (λhc=>by simp[gd] at hc);refine Ad (λhd=>?_)<|λhd=>?_
   ·obtain⟨_,hd'⟩:=EH hd;have avU:=An hd';rw[hd] at hc;have Iq:neg=false:=by simpa using hc
    subst Iq;have e1:wr .i64 x=x:=wrap_i64 ⟨A4,A4⟩;exact A5 g0 (AU (.inl ⟨rfl,by rw[e1];rfl,by unfold DX;simp only[B8];omega⟩))
   ·have MQ:9223372036854775807<x:=by
     have:decide (([x].length:Int)=(1:Int))=true:=rfl;rw[this,KL] at hd;have:=BQ hd;omega
    have As:okW [x]:=by rw[P9];exact⟨⟨hx0,hx1⟩,Z0⟩
    refine Ad (λhn=>?_)<|λhn=>?_
    ·subst hn;exact Yd.gC rfl (AU (.inr ⟨AS,.inr rfl,As,hl,by rw[ev];simp,by rw[ev];exact MQ⟩))
    ·subst hn;exact Yd.gC rfl (AU (.inr ⟨AS,.inl rfl,As,hl,by rw[ev];simp,by rw[ev];exact MQ⟩))
 |x::y::l,hw,hl=>
  have MQ:9223372036854775807<AJ (x::y::l):=by
   have h1:=TJ hw AS hl;have h2:Aw 1<=Aw ((x::y::l).length-1):=fM AS;have h3:Aw 1=BB:=rfl;unfold BB at h3;omega
  have hn1:decide (((x::y::l).length:Int)=(1:Int))=false:=Bl E8;refine Ad (λhc=>by have:=An hc;simp at this;omega)<|λ_=>?_
  refine Hb (λhc=>by simp only[gd] at hc;rw[hn1] at hc;cases hc)<|λ_=>?_
  refine Ad (λhc=>by rw[hn1] at hc;simp at hc)<|λ_=>?_
  refine Hb (λhc=>by simp only[gd] at hc;rw[hn1] at hc;cases hc)<|λ_=>?_
  refine Ad (λhc=>by rw[hn1] at hc;simp at hc)<|λ_=>?_
  refine Ad (λhn=>?_)<|λhn=>?_
  ·subst hn;exact Yd.gC rfl<|AU<| .inr ⟨AS,.inr rfl,hw,hl,AS,MQ⟩
  ·subst hn;exact Yd.gC rfl<|AU<| .inr ⟨AS,.inl rfl,hw,hl,AS,MQ⟩
theorem Vi(h:CT r z):Pt r=some z.sign:=by
 unfold Pt
 congr 1
 unfold mx_ mn_;rcases h with⟨h1,h2,h3⟩|⟨h0,h1,h2,h3,h4,h5⟩
 ·grind
 ·grind
theorem Rp(h:CT r z):Yd (λq=>CT q<| -z) (O4 r):=by
 unfold O4;refine Ad (λhc=>?_)<|λhc=>?_
 ·obtain⟨h1,h2⟩:=EH hc;rw[GW,Ik] at h2;rcases h with⟨g1,g2,g3⟩|⟨h0,_⟩
  ·unfold DX at g3;exact A5 BC (AU (.inl ⟨rfl,Au,by unfold DX;omega⟩))
  ·grind
 ·refine Az (Q5 h) λp ⟨p1,p2,p3,_⟩=>Az (TX p2<| !p.1) λq hq=>AU ?_
  rw[p1,p3] at hq;by_cases hz:z<0
  ·grind
  ·grind
theorem pj(h:CT r z):Yd (λq=>CT q (z.natAbs:Int)) (Y5 r):=by
 unfold Y5;have hs:r.1<0↔z<0:=by
  rcases h with⟨g1,g2,g3⟩|⟨h0,h1,h2,h3,h4,h5⟩
  ·rw[g2]
  ·grind
 refine Ad (λhc=>?_)<|λhc=>?_
 ·have hc:=hs.1 (An hc);refine Az (Rp h) λq hq=>AU ?_
  rwa [show((z.natAbs:Nat):Int)= -z by omega]
 ·have hc:=BQ hc;have: ¬z<0:=λh=>hc<|hs.2 h
  refine AU ?_;rwa [show((z.natAbs:Nat):Int)=z by omega]
theorem fz{s:Int×A3 Int}(hr:CT r x)(hs:CT s y)(hlr:r.2.length<2199023255552)(hls:s.2.length<2199023255552):Yd (λq=>CT q<|x+y) (T6 r s):=by
 unfold T6;refine Du (λ_=>True) (λ_ _=>?_)<|λk hk=>Ad (λhc=>?_)<|λ_=>hk _ trivial
 ·refine Az (Q5 hr) λp ⟨p1,p2,p3,p4⟩=>Az (Q5 hs) λq ⟨q1,q2,q3,q4⟩=>?_
  refine Ad (λhc=>?_)<|λhc=>?_
  ·refine Az (afR p2.1 q2.1 A4 A4) λw ⟨w1,w2⟩=>Az (TX w1 p.1) λz hz=>AU ?_
   rw[w2,p3,q3,p1] at hz;rw[p1,q1,QF] at hc;by_cases h1:x<0
   ·grind
   ·grind
  ·have hne: ¬(x<0↔y<0):=by
    intro h;rw[p1,q1] at hc;simp[h] at hc
   refine Az (te p2 q2 A4 A4) λc hcmp=>Ad (λhd=>?_)<|λhd=>?_
   ·have hd:=An hd;have hle:AJ q.2<=AJ p.2:=A4;have hlen:q.2.length<=p.2.length:=by
     rcases Hp p.2.length q.2.length with h|h
     ·have:=YM p2.1 q2 h;omega
     ·exact h
    refine Az (vC p2.1 q2.1 hlen A4 hle) λw ⟨w1,w2⟩=>Az (TX w1 p.1) λz hz=>AU ?_
    rw[w2,p3,q3,p1] at hz;by_cases h1:x<0
    ·grind
    ·grind
   ·have hd:=BQ hd;have hle:AJ p.2<=AJ q.2:=A4;have hlen:p.2.length<=q.2.length:=by
     rcases Hp q.2.length p.2.length with h|h
     ·have:=YM q2.1 p2 h;omega
     ·exact h
    refine Az (vC q2.1 p2.1 hlen A4 hle) λw ⟨w1,w2⟩=>Az (TX w1 q.1) λz hz=>AU ?_
    rw[w2,p3,q3,q1] at hz;by_cases h1:y<0
    ·grind
    ·grind
 ·obtain⟨h1,h2⟩:=EH hc;rw[W8] at h1 h2;rcases hr with⟨_,e1,i1⟩|⟨h0,_⟩
  ·rcases hs with⟨_,e2,i2⟩|⟨h0,_⟩
   ·rw[e1,e2];unfold DX at i1 i2;refine Ad (λhd=>AU<| .inl ⟨rfl,?_,?_⟩)<|λ_=>hk _ trivial
    all_goals
     by_cases jf: -9223372036854775808<=x+y/\x+y<=9223372036854775807
     ·first
      |exact wrap_i64 jf
      |exact jf
     ·exfalso;rw[QF] at hd;rcases Int.lt_or_lt_of_ne (show x+y≠0 by omega) with hlt|hgt
      ·have e3:wr .i64 (x+y)=x+y+18446744073709551616:=by
        have:wr .i64 (x+y)=wr .i64 (x+y+18446744073709551616):=by
         unfold wr IntKind.wrap;simp[IntKind.bits,IntKind.signed]
        rw[this];exact wrap_i64 ⟨A4,A4⟩
       rw[e3] at hd;have a1:x<x+y+18446744073709551616:=A4;have a2: ¬0<y:=A4;simp[a1,a2] at hd
      ·have e3:wr .i64 (x+y)=x+y-18446744073709551616:=by
        have:wr .i64 (x+y)=wr .i64 (x+y-18446744073709551616):=by
         unfold wr IntKind.wrap;simp[IntKind.bits,IntKind.signed]
        rw[this];exact wrap_i64 ⟨A4,A4⟩
       rw[e3] at hd;have a1: ¬x<x+y-18446744073709551616:=A4;have a2:0<y:=A4;simp[a1,a2] at hd
   ·grind
  ·grind
theorem pE(z:Int):Cn (-z)=Cn z:=by grind [Cn]
def WU(h:x.natAbs<=y.natAbs)(hy:Cn y=true):Cn x=true:=by
 unfold Cn at*;refine IE ?_;have:=F1 hy;by_cases h0:x.natAbs=0
 ·rw[h0];decide
 ·have h1:Nat.log2 x.natAbs<=Nat.log2 y.natAbs:=(Nat.le_log2 A4).2 (Ca ((Nat.le_log2 h0).1<|BM _) h);omega
def ze{s:Int×A3 Int}(hr:CT r x)(hs:CT s y)(hx:Cn x=true)(hy:Cn y=true):Yd (λq=>CT q<|x-y) (Y2 r s):=by
 unfold Y2;refine Az (Rp hs) λn hn=>Az (fz hr hn (by have:=hr.len hx;omega) (by have:=hn.len (by rw[pE];exact hy);omega)) λq hq=>AU ?_
 rwa [Int.sub_eq_add_neg]
theorem zf{s:Int×A3 Int}(hr:CT r x)(hs:CT s y)(hx:Cn x=true)(hy:Cn y=true):Yd (λq=>CT q<|x*y) (T5 r s):=by
 have sgn:∀(b:Bool),b=(!(decide (x<0)==decide (y<0)))->(bif b then -((x.natAbs:Int)*(y.natAbs:Int)) else(x.natAbs:Int)*(y.natAbs:Int))=x*y:=AY;unfold T5;refine Du (λ_=>True) (λ_ _=>?_)<|λk hk=>Ad (λhc=>?_)<|λ_=>hk _ trivial
 ·refine Az (Q5 hr) λp ⟨p1,p2,p3,p4⟩=>Az (Q5 hs) λq ⟨q1,q2,q3,q4⟩=>?_
  have l1:=hr.len hx;have l2:=hs.len hy;refine Az (afQ p2.1 q2.1 A4 A4) λw ⟨w1,w2⟩=>Az (TX w1<| !(p.1==q.1)) λz hz=>AU ?_
  rw[w2,p3,q3,sgn _ (by rw[p1,q1])] at hz;exact hz
 ·obtain⟨h1,h2⟩:=EH hc;rw[W8] at h1 h2;rcases hr with⟨_,e1,i1⟩|⟨h0,_⟩
  ·rcases hs with⟨_,e2,i2⟩|⟨h0,_⟩
   ·rw[e1,e2];unfold DX at i1 i2;have bx:(0:Int)<=(x.natAbs:Int)/\(x.natAbs:Int)<BB:=⟨A4,by unfold BB;omega⟩;have by':(0:Int)<=(y.natAbs:Int)/\(y.natAbs:Int)<BB:=⟨A4,by unfold BB;omega⟩;obtain⟨hi,lo,m1,m2,m3,m4,m5,m6⟩:=gF bx by';refine A5 (oS i1)<|A5 (oS i2)<|A5 m1<|Ad (λhd=>?_)<|λ_=>hk _ trivial
    obtain⟨d1,d2⟩:=EH hd;have d1:=An d1;have d2:=An d2;have e3:wr .i64 lo=lo:=wrap_i64 ⟨A4,A4⟩;have d1:hi=0:=d1;have hp:(x.natAbs:Int)*(y.natAbs:Int)=lo:=by rw[m6,d1];omega
    have s2:=sgn _ rfl;rw[hp] at s2;refine Ad (λhn=>?_)<|λhn=>?_
    ·rw[hn] at s2;simp only[Bf] at s2;rw[e3];exact A5 BC (AU (.inl ⟨rfl,s2,by unfold DX;omega⟩))
    ·rw[hn] at s2;simp only[B8] at s2;rw[e3];exact AU (.inl ⟨rfl,s2,by unfold DX;omega⟩)
   ·grind
  ·grind
theorem amS{s:Int×A3 Int}(hr:CT r x)(hs:CT s y)(hx:Cn x=true)(hy:Cn y=true):lX r s=some (Uf x y):=by
 refine G5 ?_;unfold lX;refine Ad (λhc=>?_)<|λ_=>Az (ze hr hs hx hy) λq hq=>A5 (Vi hq)<|AU ?_
 ·obtain⟨h1,h2⟩:=EH hc;rw[W8] at h1 h2;rcases hr with⟨_,e1,i1⟩|⟨h0,_⟩
  ·rcases hs with⟨_,e2,i2⟩|⟨h0,_⟩
   ·rw[e1,e2];unfold Uf;refine Ad (λh=>AU (by rw[h];rfl)) (λh=>Ad (λk=>AU (by rw[h,k];rfl)) (λk=>AU (by rw[h,k];rfl)))
   ·grind
  ·grind
 ·unfold Uf;rcases OM x y with h|h|h
  ·grind
  ·grind
  ·grind
end
end Trn
